import PyProof.Rows.All
import Wide.All
import OpenK.AllK
import Wide.FinOn
import HandS.ForMost
import HandS.ForExc
import HandS.Evl
import HandS.Walk
import HandS.IsInst
import HandS.Style
import HandS.Conv
import HandS.Zip
import HandS.EndBits
import Flt.Len
import HandS.ExcCtx
import HandS.HotCalls
import HandS.ExcIs
import HandS.Lambda
import HandS.EndTab
import KE.Datum
import HandS.Deep
import HandS.Defaults
import HandS.Head0
import HandS.Head1
import HandS.Head2
import HandS.HeadHook1
import HandS.HeadHook2
import HandS.HeadHook4
import HandS.NamedTupSort
import KE.LtSeq
import HandS.WideBits
import HandS.Nested
import HandS.HeadEnd
import PySem.Challenge.RW_thoughtcards_k09_whole_known
set_option Elab.async false
set_option linter.all false
set_option maxRecDepth 100000
set_option maxHeartbeats 4000000
set_option synthInstance.maxHeartbeats 400000
set_option synthInstance.maxSize 2000
/-! The layer Z: weakest readings (sE, sT, sA, sB ..), rules that go by the syntax alone, names by classes. -/
namespace L2.Z
open PySem PySem.Spec PyProof.Rows
open Evl (Ex)

theorem passN {X : Cx} : Passes (L2N.CX X.prog X.w) X E0 := fun _ _ _ _ _ _ _ h => by
  obtain ⟨_, _, _, _, _, _, _, _, _, _, _, _, z⟩ := h
  exact z.elim
/-! ### weakest readings -/
section Sem
structure sE (X : Cx) (e : Expr) (σ : St) (H : Hp) (Q : VK) : Prop where
  run : ∀ (pins : List (Addr × Obj)) (s : Shared), Inv X pins σ H s → wpAny (model X.prog X.w) X.A (eval e X.env) (EP X pins σ Q) X.xe s
structure sT (X : Cx) (e : Expr) (σ : St) (H : Hp) (Q : Bool → Hp → Prop) : Prop where
  run : ∀ (pins : List (Addr × Obj)) (s : Shared), Inv X pins σ H s → wpAny (model X.prog X.w) X.A (isTrue e X.env (eval e X.env)) (TP X pins σ Q) X.xe s
/-- a test that is read whatever stands for the whole (and, or) -/
structure sW (X : Cx) (e : Expr) (σ : St) (H : Hp) (Q : Bool → Hp → Prop) : Prop where
  run : ∀ (wh : Sem Value) (pins : List (Addr × Obj)) (s : Shared), Inv X pins σ H s → wpAny (model X.prog X.w) X.A (isTrue e X.env wh) (TP X pins σ Q) X.xe s
structure sA (X : Cx) (es : List Expr) (σ : St) (H : Hp) (Q : List V → Hp → Prop) : Prop where
  run : ∀ (pos : Pos) (pins : List (Addr × Obj)) (s : Shared), Inv X pins σ H s → wpAny (model X.prog X.w) X.A (spliced (backTo pos (starEach es X.env))) (AP X pins σ Q) X.xe s
structure sS (X : Cx) (st : Stmt) (D : Ends) (σ : St) (H : Hp) : Prop where
  run : ∀ (pins : List (Addr × Obj)) (s : Shared), Inv X pins σ H s → wpAny (model X.prog X.w) X.A (exec st X.env) (SP X pins D) X.xe s
structure sB (X : Cx) (b : List Stmt) (D : Ends) (σ : St) (H : Hp) : Prop where
  run : ∀ (pins : List (Addr × Obj)) (s : Shared), Inv X pins σ H s → wpAny (model X.prog X.w) X.A (execs b X.env) (SP X pins D) X.xe s
structure sG (X : Cx) (tg : Expr) (v : V) (σ : St) (H : Hp) (Q : St → Hp → Prop) : Prop where
  run : ∀ (pins : List (Addr × Obj)) (s : Shared) (u : Value), Inv X pins σ H s → RelV v u → wpAny (model X.prog X.w) X.A (assign tg X.env u) (fun _ s' => ∃ σ' H', Inv X pins σ' H' s' ∧ Q σ' H') X.xe s
structure sI (X : Cx) (tg iter : Expr) (σ : St) (H : Hp) (R : It → Hp → Prop) : Prop where
  run : ∀ (pins : List (Addr × Obj)) (s : Shared), Inv X pins σ H s → wpAny (model X.prog X.w) X.A (eval iter X.env) (fun v s1 => wpAny (model X.prog X.w) X.A (pyIter v) (PIE X pins σ tg R) X.xe s1) X.xe s
end Sem

section Back
variable {X : Cx} {e : Expr} {es : List Expr} {b : List Stmt} {st : Stmt} {tg iter : Expr} {σ : St} {H : Hp}
theorem pE : PE X e (sE X e) := ⟨fun pins s _ _ _ I h => h.run pins s I⟩
theorem pT : PT X e (sT X e) := ⟨fun pins s _ _ _ I h => h.run pins s I⟩
theorem pW : PW X e (sW X e) := ⟨fun wh pins s _ _ _ I h => h.run wh pins s I⟩
theorem pA : PA X es (sA X es) := ⟨fun pos pins s _ _ _ I h => h.run pos pins s I⟩
theorem pS : PS X st (sS X st) := ⟨fun pins s _ _ _ I h => h.run pins s I⟩
theorem pB : PSs X b (sB X b) := ⟨fun pins s _ _ _ I h => h.run pins s I⟩
theorem pG : PG X tg (sG X tg) := ⟨fun pins s _ _ _ u _ I r h => h.run pins s u I r⟩
theorem pI : PI X tg iter (sI X tg iter) := ⟨fun pins s _ _ _ I h => h.run pins s I⟩
theorem oE {t : TE} (h : PE X e t) {Q : VK} (q : t σ H Q) : sE X e σ H Q := ⟨fun pins s I => h.run pins s σ H Q I q⟩
theorem oT {t : TT} (h : PT X e t) {Q : Bool → Hp → Prop} (q : t σ H Q) : sT X e σ H Q := ⟨fun pins s I => h.run pins s σ H Q I q⟩
theorem oW {t : TT} (h : PW X e t) {Q : Bool → Hp → Prop} (q : t σ H Q) : sW X e σ H Q := ⟨fun wh pins s I => h.run wh pins s σ H Q I q⟩
theorem oA {t : TA} (h : PA X es t) {Q : List V → Hp → Prop} (q : t σ H Q) : sA X es σ H Q := ⟨fun pos pins s I => h.run pos pins s σ H Q I q⟩
theorem oS {t : TS} (h : PS X st t) {D : Ends} (q : t D σ H) : sS X st D σ H := ⟨fun pins s I => h.run pins s σ H D I q⟩
theorem oB {t : TS} (h : PSs X b t) {D : Ends} (q : t D σ H) : sB X b D σ H := ⟨fun pins s I => h.run pins s σ H D I q⟩
theorem oG {t : TG} (h : PG X tg t) {v : V} {Q : St → Hp → Prop} (q : t v σ H Q) : sG X tg v σ H Q := ⟨fun pins s u I r => h.run pins s σ H v u Q I r q⟩
theorem oI {t : TI} (h : PI X tg iter t) {R : It → Hp → Prop} (q : t σ H R) : sI X tg iter σ H R := ⟨fun pins s I => h.run pins s σ H R I q⟩
theorem sE_mono {Q Q' : VK} (m : ∀ v H', Q v H' → Q' v H') (h : sE X e σ H Q) : sE X e σ H Q' := ⟨fun pins s I =>
  thn (h.run pins s I) fun _ _ ⟨v, H1, I1, r, q⟩ => ⟨v, H1, I1, r, m v H1 q⟩⟩
theorem sT_mono {Q Q' : Bool → Hp → Prop} (m : ∀ v H', Q v H' → Q' v H') (h : sT X e σ H Q) : sT X e σ H Q' := ⟨fun pins s I =>
  thn (h.run pins s I) fun _ _ ⟨H1, I1, q⟩ => ⟨H1, I1, m _ H1 q⟩⟩
theorem sA_mono {Q Q' : List V → Hp → Prop} (m : ∀ v H', Q v H' → Q' v H') (h : sA X es σ H Q) : sA X es σ H Q' := ⟨fun pos pins s I =>
  thn (h.run pos pins s I) fun _ _ ⟨v, H1, I1, r, q⟩ => ⟨v, H1, I1, r, m v H1 q⟩⟩
theorem sI_mono {Q Q' : It → Hp → Prop} (m : ∀ v H', Q v H' → Q' v H') (h : sI X tg iter σ H Q) : sI X tg iter σ H Q' := ⟨fun pins s I =>
  thn (h.run pins s I) fun _ _ h1 => thn h1 fun _ _ ⟨it, fp, tn, J, H2, e, I2, T, st2, f2, q⟩ => ⟨it, fp, tn, J, H2, e, I2, T, st2, f2, m J H2 q⟩⟩
end Back

/-! ### names by classes -/
class Has (N : List Str) (σ : St) (x : Str) (v : outParam V) : Prop where
  ix : ∃ i : Nat, N[i]? = some x ∧ σ[i]? = some (some v)
instance (priority := high) Has.here {N : List Str} {σ : St} {x : Str} {v : V} : Has (x :: N) (some v :: σ) x v := ⟨0, rfl, rfl⟩
instance Has.next {N : List Str} {σ : St} {x y : Str} {v : V} {o : Option V} [h : Has N σ x v] : Has (y :: N) (o :: σ) x v :=
  ⟨let ⟨i, a, b⟩ := h.ix; ⟨i + 1, a, b⟩⟩
class Put (N : List Str) (σ : St) (x : Str) (v : V) (σ' : outParam St) : Prop where
  ix : ∃ i : Nat, N[i]? = some x ∧ σ' = σ.set i (some v)
instance (priority := high) Put.here {N : List Str} {σ : St} {x : Str} {v : V} {o : Option V} : Put (x :: N) (o :: σ) x v (some v :: σ) := ⟨0, rfl, rfl⟩
instance Put.next {N : List Str} {σ σ' : St} {x y : Str} {v : V} {o : Option V} [h : Put N σ x v σ'] : Put (y :: N) (o :: σ) x v (o :: σ') :=
  ⟨let ⟨i, a, b⟩ := h.ix; ⟨i + 1, a, by rw [b]; rfl⟩⟩
class Mm (L : List Str) (x : Str) : Prop where
  mem : x ∈ L
instance (priority := high) Mm.here {L : List Str} {x : Str} : Mm (x :: L) x := ⟨List.Mem.head _⟩
instance Mm.next {L : List Str} {x y : Str} [h : Mm L x] : Mm (y :: L) x := ⟨List.Mem.tail _ h.mem⟩

/-- what is known of a context: its scope, its names by slot, the names to be read, to be stored, the global ones; the built-in names that the module leaves alone -/
class Ck (X : Cx) (sc : outParam Scope) (N R S G B : outParam (List Str)) : Prop where
  sc : X.env.scope = sc
  nm : X.N = N
  nd : X.N.Nodup
  calm : X.calm = true
  vis : ∀ x ∈ R, Vis X.env.scope x ∧ (x == ("__debug__" : Str)) = false ∧ (x == ("__classdict__" : Str)) = false
  sto : ∀ x ∈ S, Loc X.env.scope x ∧ (X.fn x = true ∨ X.env.scope.names.lookup x = some .local)
  glo : ∀ x ∈ G, Gl X x ∧ (x == ("__debug__" : Str)) = false ∧ x ≠ "__name__"
  blt : ∀ x ∈ B, X.mg x = none

def visC (sc : Scope) (R : List Str) : Bool := R.all fun x =>
  (match sc.names.lookup x with | some .local => true | some .cell => true | some .free => true | _ => false) && !(x == ("__debug__" : Str)) && !(x == ("__classdict__" : Str))
def stoC (sc : Scope) (S : List Str) : Bool := S.all fun x =>
  (match sc.names.lookup x with | some .local => true | some .cell => true | _ => false)
def gloC (sc : Scope) (G : List Str) : Bool := G.all fun x =>
  (match sc.names.lookup x with | some .globalImplicit => true | _ => false) && !(x == ("__debug__" : Str)) && !(x == ("__name__" : Str))
theorem visC_ok {sc : Scope} {R : List Str} (h : visC sc R = true) : ∀ x ∈ R, Vis sc x ∧ (x == ("__debug__" : Str)) = false ∧ (x == ("__classdict__" : Str)) = false := fun x hx => by
  have q := List.all_eq_true.mp h x hx
  simp only [Bool.and_eq_true, Bool.not_eq_true'] at q
  obtain ⟨⟨q1, q2⟩, q3⟩ := q
  refine ⟨?_, q2, q3⟩
  unfold Vis
  revert q1
  cases sc.names.lookup x with
  | none => intro z; cases z
  | some k => cases k <;> intro z <;> first | exact .inl rfl | exact .inr (.inl rfl) | exact .inr (.inr rfl) | cases z
theorem stoC_ok {sc : Scope} {S : List Str} (h : stoC sc S = true) : ∀ x ∈ S, sc.names.lookup x = some .local ∨ sc.names.lookup x = some .cell := fun x hx => by
  have q := List.all_eq_true.mp h x hx
  revert q
  cases sc.names.lookup x with
  | none => intro z; cases z
  | some k => cases k <;> intro z <;> first | exact .inl rfl | exact .inr rfl | cases z
theorem gloC_ok {sc : Scope} {G : List Str} (h : gloC sc G = true) : ∀ x ∈ G, sc.names.lookup x = some .globalImplicit ∧ (x == ("__debug__" : Str)) = false ∧ x ≠ "__name__" := fun x hx => by
  have q := List.all_eq_true.mp h x hx
  simp only [Bool.and_eq_true, Bool.not_eq_true'] at q
  obtain ⟨⟨q1, q2⟩, q3⟩ := q
  refine ⟨?_, q2, by simpa using q3⟩
  revert q1
  cases sc.names.lookup x with
  | none => intro z; cases z
  | some k => cases k <;> intro z <;> first | rfl | cases z

/-- a def's scope, checked at once: names by slot, parameters, names read and stored, global names -/
def defC (sc : Scope) (N P R G : List Str) : Bool :=
  (match sc.kind with | .function => true | _ => false) && !sc.isCoroutine && !sc.isGenerator && decide N.Nodup && decide (N.take P.length = P) && stoC sc P &&
    (sc.names.all fun y => match y.2 with | .free => false | _ => true) && visC sc R && stoC sc R && gloC sc G
structure DefOk (sc : Scope) (N P R G : List Str) : Prop where
  fs : FnScope N P sc
  vis : visC sc R = true
  sto : stoC sc R = true
  glo : gloC sc G = true
theorem defOk {sc : Scope} {N P R G : List Str} (h : defC sc N P R G = true) : DefOk sc N P R G := by
  unfold defC at h
  simp only [Bool.and_eq_true, Bool.not_eq_true', decide_eq_true_eq] at h
  obtain ⟨⟨⟨⟨⟨⟨⟨⟨⟨h1, h2⟩, h3⟩, h4⟩, h5⟩, h6⟩, h7⟩, h8⟩, h9⟩, h10⟩ := h
  refine ⟨⟨?_, h2, h3, h4, h5, stoC_ok h6, fun y hy e => ?_⟩, h8, h9, h10⟩
  · revert h1
    cases sc.kind <;> intro z <;> first | rfl | cases z
  · have q := List.all_eq_true.mp h7 y hy
    rw [e] at q
    cases q
theorem Ck.ofDef {X : Cx} {sc : Scope} {N P R G B : List Str} (d : DefOk sc N P R G) (h1 : X.env.scope = sc) (h2 : X.N = N) (h3 : X.calm = true) (h4 : X.fn = fun _ => true) (hB : ∀ x ∈ B, X.mg x = none) : Ck X sc N R R G B where
  sc := h1
  nm := h2
  nd := by rw [h2]; exact d.fs.nd
  calm := h3
  vis := by rw [h1]; exact visC_ok d.vis
  sto := fun x hx => ⟨by rw [h1]; exact stoC_ok d.sto x hx, .inl (by rw [h4])⟩
  glo := fun x hx => by
    have q := gloC_ok d.glo x hx
    exact ⟨by unfold Gl Env.kindOf; rw [h1]; exact q.1, q.2.1, q.2.2⟩
  blt := hB
instance Ck.nox {X : Cx} {sc : Scope} {N R S G B : List Str} [c : Ck X sc N R S G B] : Ck X.nox sc N R S G B :=
  ⟨c.sc, c.nm, c.nd, c.calm, c.vis, c.sto, c.glo, c.blt⟩
end L2.Z

namespace L2.Z
open PySem PySem.Spec PyProof.Rows
open Evl (Ex)
/-! ### expressions -/
/-- a truth comes -/
def asB (QT : Bool → Hp → Prop) : VK := fun z H => ∃ k, z = .bl k ∧ QT k H
theorem x_asB {QT : Bool → Hp → Prop} {k : Bool} {H : Hp} (q : QT k H) : asB QT (.bl k) H := ⟨k, rfl, q⟩
theorem iteB {b : Bool} {A B : Prop} (h1 : b = true → A) (h2 : b = false → B) : if b = true then A else B := by
  cases b with
  | true => rw [if_pos rfl]; exact h1 rfl
  | false => rw [if_neg Bool.false_ne_true]; exact h2 rfl
theorem iteD {p : Prop} [Decidable p] {A B : Prop} (h1 : p → A) (h2 : ¬ p → B) : if decide p = true then A else B := iteB (fun h => h1 (of_decide_eq_true h)) (fun h => h2 (of_decide_eq_false h))
theorem iteN {p : Prop} [Decidable p] {A B : Prop} (h1 : ¬ p → A) (h2 : p → B) : if (!decide p) = true then A else B := by
  by_cases h : p
  · rw [decide_eq_true h]; exact h2 h
  · rw [decide_eq_false h]; exact h1 h
theorem iteY {b : Bool} {A B : Prop} (h : b = true) (h1 : A) : if b = true then A else B := by rw [if_pos h]; exact h1
theorem iteF' {b : Bool} {A B : Prop} (h : b = false) (h1 : B) : if b = true then A else B := by rw [h, if_neg Bool.false_ne_true]; exact h1
/-- a new object -/
class New (H : Hp) (p : Addr) (o : HO) (H' : Hp) : Prop where
  fr : H p = none
  ex : Ex H H'
  at_ : H' p = some o
theorem New.mk' {H : Hp} {p : Addr} {o : HO} (h : H p = none) : New H p o (upd H p o) := ⟨h, Ex.new h, upd_same⟩
section
variable {X : Cx} {sc : Scope} {N R S G B : List Str} {σ σ' : St} {H : Hp} {Q : VK} {x : Str} {v : V} {pos p : Pos} {e a b c : Expr} {es : List Expr}

theorem e_var [C : Ck X sc N R S G B] [m : Mm R x] [h : Has N σ x v] (q : Q v H) : sE X (.Name x pos) σ H Q := by
  obtain ⟨i, h1, h2⟩ := h.ix
  obtain ⟨k1, k2, k3⟩ := C.vis x m.mem
  exact oE (pe_var (i := i) (by rw [C.nm]; exact h1) k1 k2 k3) ⟨v, h2, q⟩
theorem e_int {i : Int} {j : Nat} (q : Q (.int i) H) : sE X (.Constant (.int i) j pos) σ H Q := oE pe_int q
theorem e_bl {i : Bool} {j : Nat} (q : Q (.bl i) H) : sE X (.Constant (.bool i) j pos) σ H Q := oE pe_bl q
theorem e_non {j : Nat} (q : Q .non H) : sE X (.Constant .none j pos) σ H Q := oE pe_non q
theorem e_str {i : Str} {j : Nat} (q : Q (.str i) H) : sE X (.Constant (.str i) j pos) σ H Q := oE pe_str q
/-- a global of the module, as a value -/
theorem e_glob [C : Ck X sc N R S G B] [m : Mm G x] {u : Value} (hm : X.mg x = some u) (r : RelV v u) (q : Q v H) : sE X (.Name x pos) σ H Q := by
  obtain ⟨k1, k2, _⟩ := C.glo x m.mem
  exact oE (pe_glob k1 hm r k2) q
theorem e_bltn [C : Ck X sc N R S G B] [m : Mm G x] [mb : Mm B x] {u : Value} (hv : bootBuiltins x = some u) (r : RelV v u) (q : Q v H) : sE X (.Name x pos) σ H Q := by
  obtain ⟨k1, k2, k3⟩ := C.glo x m.mem
  exact oE (pe_bltn k1 (C.blt x mb.mem) hv r k3 k2) q
/-- two values, then a rule -/
theorem e_op {op : Operator} {r : R2} (ho : OpR X (binaryOp op) r) (q : sE X a σ H fun x H1 => sE X b σ H1 fun y H2 => r x y H2 Q) : sE X (.BinOp a op b pos) σ H Q := oE (pe_op ho pE pE) q
theorem e_un {op : UnaryOp} {r : V → Hp → VK → Prop} (ho : UnR X (unaryOp op) r) (q : sE X a σ H fun x H1 => r x H1 Q) : sE X (.UnaryOp op a pos) σ H Q := oE (pe_un ho pE) q
theorem e_cmp {op : CmpOp} {r : R2} (ho : OpR X (compareOp op) r) (hm : behindInMarks op b = false) (q : sE X a σ H fun x H1 => sE X b σ H1 fun y H2 => r x y H2 Q) : sE X (.Compare a [op] [b] pos) σ H Q := oE (pe_cmpR ho pE pE hm) q
theorem e_chain {op op' : CmpOp} {r r' : R2} (ho : OpR X (compareOp op) r) (ho' : OpR X (compareOp op') r') (q : tChain r r' (sE X a) (sE X b) (sE X c) σ H Q)
    (hm : lastMarks [op, op'] [b, c] = false := by with_unfolding_all rfl) : sE X (.Compare a [op, op'] [b, c] pos) σ H Q := oE (pe_chain ho ho' pE pE pE hm) q
theorem e_lst (q : sA X es σ H fun vs H1 => vs.length ≤ 100000 ∧ ∀ p H', New H1 p (.lst vs) H' → Q (.ref p) H') : sE X (.List es pos) σ H Q :=
  oE (pe_lst pA) (sA_mono (fun vs H1 ⟨l, k⟩ => ⟨Evl.sz_of l, fun p hp => k p _ (New.mk' hp)⟩) q)
theorem e_tup {k : Nat} (q : sA X es σ H fun vs H1 => vs.length ≤ 100000 ∧ ∀ p H', New H1 p (.tup vs) H' → Q (.ref p) H') : sE X (.Tuple es k pos) σ H Q :=
  oE (pe_tup pA) (sA_mono (fun vs H1 ⟨l, k⟩ => ⟨Evl.sz_of l, fun p hp => k p _ (New.mk' hp)⟩) q)
theorem a_nil {Q : List V → Hp → Prop} (q : Q [] H) : sA X [] σ H Q := oA pa_nil q
theorem a_cons {Q : List V → Hp → Prop} (q : sE X e σ H fun x H1 => sA X es σ H1 fun xs H2 => Q (x :: xs) H2) (hs : starEach (e :: es) X.env = (false, eval e X.env) :: starEach es X.env := by rfl) : sA X (e :: es) σ H Q := oA (pa_cons pE pA hs) q
theorem e_ix {r : R2} (hr : IxR X r) (hs : PlainIx b) (q : sE X a σ H fun x H1 => sE X b σ H1 fun y H2 => r x y H2 Q) : sE X (.Subscript a b pos) σ H Q := oE (pe_ix hr pE pE hs) q
theorem e_if (q : sT X c σ H fun d H1 => if d = true then sE X a σ H1 Q else sE X b σ H1 Q) : sE X (.IfExp c a b pos) σ H Q := oE (pe_ifExp pT pE pE) q
/-- and, or, not as values that are truths -/
theorem e_and (q : sE X a σ H (asB fun d H1 => if d = true then sE X (.BoolOp .And (b :: es) pos) σ H1 Q else Q (.bl false) H1)) : sE X (.BoolOp .And (a :: b :: es) pos) σ H Q := oE (pe_and pE pE) q
theorem e_or (q : sE X a σ H (asB fun d H1 => if d = true then Q (.bl true) H1 else sE X (.BoolOp .Or (b :: es) pos) σ H1 Q)) : sE X (.BoolOp .Or (a :: b :: es) pos) σ H Q := oE (pe_or pE pE) q
theorem e_one {op} (q : sE X a σ H Q) : sE X (.BoolOp op [a] pos) σ H Q := oE (pe_one pE) q
theorem e_not (q : sE X a σ H (asB fun d H1 => Q (.bl (!d)) H1)) : sE X (.UnaryOp .Not a pos) σ H Q := oE (pe_not pE) q
/-- built-ins called -/
theorem e_callB [C : Ck X sc N R S G B] [m : Mm G x] [mb : Mm B x] {id : String} {r : List V → Hp → VK → Prop} (hc : CallR X (.builtin id) r) (hv : bootBuiltins x = some (.builtin id)) (q : sA X (e :: es) σ H fun vs H1 => r vs H1 Q)
    (he : starEach (e :: es) X.env = (false, eval e X.env) :: starEach es X.env := by rfl) (hpl : (backTo pos (starEach es X.env)).any (·.1) = false := by rfl) : sE X (.Call (.Name x p) (e :: es) [] pos) σ H Q := by
  obtain ⟨k1, k2, k3⟩ := C.glo x m.mem
  exact oE (pe_callB hc k1 (C.blt x mb.mem) hv pA k3 k2 he hpl) q
theorem e_callTy [C : Ck X sc N R S G B] [m : Mm G x] [mb : Mm B x] {T : String} {r : List V → Hp → VK → Prop} (hc : CallR X (.type T) r) (hv : bootBuiltins x = some (.type T)) (q : sA X (e :: es) σ H fun vs H1 => r vs H1 Q)
    (he : starEach (e :: es) X.env = (false, eval e X.env) :: starEach es X.env := by rfl) (hpl : (backTo pos (starEach es X.env)).any (·.1) = false := by rfl) : sE X (.Call (.Name x p) (e :: es) [] pos) σ H Q := by
  obtain ⟨k1, k2, k3⟩ := C.glo x m.mem
  exact oE (pe_callTy hc k1 (C.blt x mb.mem) hv pA k3 k2 he hpl) q

/-! ### own defs -/
/-- a def of the module that keeps its promise -/
structure Kn (P : Program) (w : World) (K : PySem.W.Frag) (mg : Str → Option Value) (base : Heap) (k : Nat) (x : Str) (ps : List Str) (sp : Sp) : Prop where
  ex : ∃ f fd, FnOk P w K mg base (L2N.CX P w) k f fd ps sp ∧ mg x = some (.ref f) ∧ PySem.W.keepIn K (.ref f) = true ∧ Binds K fd ps []
theorem Kn.mono {P : Program} {w : World} {K : PySem.W.Frag} {mg : Str → Option Value} {base : Heap} {j k : Nat} {ps : List Str} {sp : Sp} (h : Kn P w K mg base j x ps sp) (l : j ≤ k) : Kn P w K mg base k x ps sp :=
  let ⟨f, fd, a, b⟩ := h.ex; ⟨f, fd, a.mono l, b⟩
/-- .. as seen from a body -/
class Fk (X : Cx) (x : Str) (sp : outParam Sp) : Prop where
  ex : ∃ k ps, Kn X.prog X.w X.K X.mg X.base k x ps sp ∧ Room k X.A
theorem Fk.of {k : Nat} {ps : List Str} {sp : Sp} (h : Kn X.prog X.w X.K X.mg X.base k x ps sp) (hr : Room k X.A) : Fk X x sp := ⟨k, ps, h, hr⟩
instance Fk.nox {sp : Sp} [h : Fk X x sp] : Fk X.nox x sp := ⟨h.ex⟩
instance Fk.blk {sp : Sp} {s : Shared} {H : Hp} {scope : Scope} {ce : Env} {fp : List Addr} [h : Fk X x sp] : Fk (X.blk s H scope ce fp) x sp := ⟨h.ex⟩
theorem e_call [C : Ck X sc N R S G B] [m : Mm G x] {sp : Sp} [F : Fk X x sp] (q : sA X (e :: es) σ H fun vs H1 => sp vs H1 Q E0)
    (he : starEach (e :: es) X.env = (false, eval e X.env) :: starEach es X.env := by rfl) (hpl : (backTo pos (starEach es X.env)).any (·.1) = false := by rfl) : sE X (.Call (.Name x p) (e :: es) [] pos) σ H Q := by
  obtain ⟨k, ps, ⟨f, fd, G1, g, kp, b⟩, hr⟩ := F.ex
  obtain ⟨k1, k2, _⟩ := C.glo x m.mem
  refine oE (pe_call (dvs := []) (ds := []) G1 hr k1 g kp b .nil passN pA k2 he hpl) ?_
  exact sA_mono (fun vs H1 k => by show sp (vs ++ []) H1 Q E0; rw [List.append_nil]; exact k) q
theorem e_call0 [C : Ck X sc N R S G B] [m : Mm G x] {sp : Sp} [F : Fk X x sp] (q : sp [] H Q E0) : sE X (.Call (.Name x p) [] [] pos) σ H Q := by
  obtain ⟨k, ps, ⟨f, fd, G1, g, kp, b⟩, hr⟩ := F.ex
  obtain ⟨k1, k2, _⟩ := C.glo x m.mem
  exact oE (pe_call0 (dvs := []) (ds := []) G1 hr k1 g kp b .nil passN k2) q

/-! ### tests -/
variable {QT : Bool → Hp → Prop}
theorem t_cmp {op : CmpOp} {r : R2} (ho : OpR X (compareOp op) r) (hm : behindInMarks op b = false) (q : sE X a σ H fun x H1 => sE X b σ H1 fun y H2 => r x y H2 (asB QT)) : sT X (.Compare a [op] [b] pos) σ H QT :=
  oT (pt_cmpR ho pE pE hm) q
theorem t_val (q : sE X e σ H (asB QT)) (he : ∀ wh, isTrue e X.env wh = (do let v ← wh; standAt e.pos; holding [v] (truthy v)) := by intro _; rfl) : sT X e σ H QT := oT (pt_val pE he) q
theorem t_not (q : sT X a σ H fun d H1 => QT (!d) H1) : sT X (.UnaryOp .Not a pos) σ H QT := oT (pt_not pT) q
theorem t_and (q : sW X (.BoolOp .And es pos) σ H QT) : sT X (.BoolOp .And es pos) σ H QT := oT pW.pt q
theorem t_or (q : sW X (.BoolOp .Or es pos) σ H QT) : sT X (.BoolOp .Or es pos) σ H QT := oT pW.pt q
theorem w_and1 (q : sT X a σ H QT) : sW X (.BoolOp .And [a] pos) σ H QT := oW (pw_and1 pT) q
theorem w_or1 (q : sT X a σ H QT) : sW X (.BoolOp .Or [a] pos) σ H QT := oW (pw_or1 pT) q
theorem w_and (q : sT X a σ H fun d H1 => if d = true then sW X (.BoolOp .And (b :: es) pos) σ H1 QT else QT false H1) : sW X (.BoolOp .And (a :: b :: es) pos) σ H QT := oW (pw_and pT pW) q
theorem w_or (q : sT X a σ H fun d H1 => if d = true then QT true H1 else sW X (.BoolOp .Or (b :: es) pos) σ H1 QT) : sW X (.BoolOp .Or (a :: b :: es) pos) σ H QT := oW (pw_or pT pW) q

/-! ### statements -/
variable {D : Ends} {st : Stmt} {rest body orl : List Stmt} {py : Pos}
theorem b_nil (q : D.nx σ H) : sB X [] D σ H := oB pss_nil q
theorem b_st (q : sS X st { D with nx := sB X rest D } σ H) : sB X (st :: rest) D σ H := oB (pss_cons pS pB) q
/-- a block whose end is known: what follows is shown once, from Mid -/
theorem b_cut (Mid : St → Hp → Prop) (q : sS X st { D with nx := Mid } σ H) (k : ∀ σ' H', Mid σ' H' → sB X rest D σ' H') : sB X (st :: rest) D σ H := oB (Evl.pss_cut pS pB) ⟨Mid, q, k⟩
theorem b_asg [C : Ck X sc N R S G B] [m : Mm S x] (q : sE X e σ H fun v H1 => ∃ σ', Put N σ x v σ' ∧ sB X rest D σ' H1)
    (hs : swapsWith e (some (.Name x py)) pos.line X.env = pure false := by rfl) : sB X (.Assign [.Name x py] e pos :: rest) D σ H := by
  obtain ⟨k1, k2⟩ := C.sto x m.mem
  refine ⟨fun pins s I => wpAny_execs_cons ?_⟩
  refine wpAny_Assign_Name (thn (q.run pins s I) fun u s1 ⟨y, H1, I1, r1, σ', pu, q1⟩ => ?_) hs
  obtain ⟨i, h1, h2⟩ := pu.ix
  refine store_ok I1 C.nd (by rw [C.nm]; exact h1) k1 r1 (fun s2 I2 => ?_) k2
  rw [← h2] at I2
  exact q1.run pins s2 I2
theorem b_expr (q : sE X e σ H fun _ H1 => sB X rest D σ H1) (hs : swapsWith e none pos.line X.env = pure false := by rfl) : sB X (.Expr e pos :: rest) D σ H :=
  oB (pss_cons (ps_expr pE hs) pB) q
theorem b_ret (q : sE X e σ H D.rt) : sB X (.Return (some e) pos :: rest) D σ H := by
  refine ⟨fun pins s I => wpAny_execs_cons ?_⟩
  exact wpAny_Return_some (thn (q.run pins s I) fun u s1 ⟨y, H1, I1, r1, q1⟩ => ⟨y, σ, H1, I1, r1, q1⟩)
theorem b_if (q : sT X c σ H fun d H1 => if d = true then sB X body { D with nx := sB X rest D } σ H1 else sB X orl { D with nx := sB X rest D } σ H1) : sB X (.If c body orl pos :: rest) D σ H :=
  oB (pss_cons (ps_if pT pB pB) pB) q
theorem b_nox (q : sB X.nox body D σ H) : sB X body D σ H := oB (PSs.nox pB) q
end
end L2.Z
namespace L2.Z
open PySem PySem.Spec PyProof.Rows
open Evl (Ex)
/-! ### a def by its body, over a context that is a letter -/
class Po (X : Cx) : Prop where
  po : PassesOwn (model X.prog X.w) X.A X.env X.xe
instance Po.nox {X : Cx} : Po X.nox := ⟨PassesOwn.never⟩
instance Ck.blk0 {X : Cx} {s : Shared} {H : Hp} {scope : Scope} {ce : Env} {fp : List Addr} : Po (X.blk s H scope ce fp) := ⟨PassesOwn.never⟩
/-! ### comprehensions -/
/-- the block of a comprehension, checked at once -/
def blkAll (N : List Str) (sc scope : Scope) (own : List (Str × Nat)) (R G : List Str) : Bool :=
  blkC N sc scope own && visC (relS scope sc) R && stoC scope (own.map (·.1)) && gloC (relS scope sc) G
section
variable {X : Cx} {sc scope : Scope} {N R S G B R' G' : List Str} {own : List (Str × Nat)}
theorem relS_sto {scope sc : Scope} {x : Str} (h : scope.names.lookup x = some .local ∨ scope.names.lookup x = some .cell) : (relS scope sc).names.lookup x = scope.names.lookup x := by
  rcases h with h | h
  · rw [h]; exact lookup_relS_keep (by decide) h
  · rw [h]; exact lookup_relS_keep (by decide) h
theorem Ck.ofBlk [C : Ck X sc N R S G B] (h : blkAll N sc scope own R' G' = true) (s : Shared) (H : Hp) (Ca : Addr) (cl : List (Str × Addr)) (fp : List Addr) :
    Ck (X.blk s H scope (compEnvC scope cl Ca X.env) fp) (relS scope sc) N R' (own.map (·.1)) G' B := by
  unfold blkAll at h
  simp only [Bool.and_eq_true] at h
  obtain ⟨⟨⟨_, h2⟩, h3⟩, h4⟩ := h
  have e : (X.blk s H scope (compEnvC scope cl Ca X.env) fp).env.scope = relS scope sc := by rw [← C.sc]; rfl
  refine ⟨e, C.nm, C.nd, C.calm, by rw [e]; exact visC_ok h2, fun x hx => ?_, fun x hx => ?_, C.blt⟩
  · have q := stoC_ok h3 x hx
    have q2 := relS_sto (sc := sc) q
    refine ⟨by unfold Loc; rw [e, q2]; exact q, ?_⟩
    rcases q with q | q
    · exact .inr (by rw [e, q2, q])
    · exact .inl (show (scope.names.lookup x == some .cell) = true by rw [q]; rfl)
  · have q := gloC_ok h4 x hx
    exact ⟨by unfold Gl Env.kindOf; rw [e]; exact q.1, q.2.1, q.2.2⟩
theorem blkOk_of [C : Ck X sc N R S G B] (h : blkAll N sc scope own R' G' = true) : BlkOk X.N X.env.scope scope own := by
  unfold blkAll at h
  simp only [Bool.and_eq_true] at h
  rw [C.nm, C.sc]
  exact blkOk_by h.1.1.1
end
/-- the heap without one object -/
def hid (H : Hp) (D : Addr) : Hp := fun b => if b = D then none else H b
theorem hid_ex {H H' : Hp} {D : Addr} (e : Ex H H') : Ex (hid H D) (hid H' D) := fun b o h => by
  unfold hid at *
  by_cases hb : b = D
  · rw [if_pos hb] at h; cases h
  · rw [if_neg hb] at h ⊢; exact e b o h
theorem hid_of {H : Hp} {D : Addr} : Ex (hid H D) H := fun b o h => by
  unfold hid at h
  by_cases hb : b = D
  · rw [if_pos hb] at h; cases h
  · rw [if_neg hb] at h; exact h
theorem hid_in {H H' : Hp} {D : Addr} (e : Ex H H') (h : H D = none) : Ex H (hid H' D) := fun b o q => by
  unfold hid
  rw [if_neg (ne_of_none q h)]
  exact e b o q
theorem hid_upd {H : Hp} {D : Addr} {o : HO} : hid (upd H D o) D = hid H D := by
  funext b
  unfold hid
  by_cases hb : b = D
  · rw [if_pos hb, if_pos hb]
  · rw [if_neg hb, if_neg hb, upd_ne hb]
theorem hid_new {H : Hp} {D r : Addr} {o : HO} (h : H r = some o) (ne : r ≠ D) : hid H D r = some o := by
  unfold hid
  rw [if_neg ne]
  exact h

/-- one turn's end: y (or nothing) comes to the list; G4: the heap behind the turn but for the list itself -/
def LcEnd (Rl : Nat → List V → Hp → Prop) (i : Nat) (acc : List V) (Hh H : Hp) (y : Option V) (H4 : Hp) : Prop :=
  Ex H H4 ∧ ∀ G4, Ex Hh G4 → (∀ r o, H r = none → H4 r = some o → G4 r = some o) → Rl (i + 1) (acc ++ y.toList) G4
/-- a context within: the same module, the same room, the same defs -/
class Sub (X : outParam Cx) (X' : Cx) : Prop where
  K : X'.K = X.K
  mg : X'.mg = X.mg
  fk : ∀ f sp, Fk X f sp → Fk X' f sp
  un : X'.A = X.A
  pr : X'.prog = X.prog
  w : X'.w = X.w
  base : X'.base = X.base
/-- the weakest reading of a clause's tests -/
structure sTs (X : Cx) (ifs : List Expr) (σ : St) (H : Hp) (Q : Bool → Hp → Prop) : Prop where
  run : ∀ (pins : List (Addr × Obj)) (s : Shared), Inv X pins σ H s → wpAny (model X.prog X.w) X.A (forIn ifs true fun c r => if r = true then do let ok ← isTrue c X.env (eval c X.env); pure (ForInStep.yield ok) else pure (ForInStep.yield r)) (TP X pins σ Q) X.xe s
/-- what a comprehension asks of its source J (n turns, Y) and of its turns; Rl: turn, what is listed so far, the heap but for the list -/
structure LcAsk (X : Cx) (sc : Scope) (N R S G B : List Str) (vs : List Nat) (g : TG) (elt : Expr) (ifs : List Expr) (σ : St) (J : It) (H1 : Hp) (Q : VK) (n : Nat) (Gd : Hp → Prop) (Y : Nat → Hp → V → Hp → Prop) (Rl : Nat → List V → Hp → Prop) : Prop where
  wk : Walk J n Gd Y
  r0 : Rl 0 [] H1
  gd : ∀ i acc Hh H, Rl i acc Hh → Ex Hh H → Gd H
  len : ∀ i acc Hh, Rl i acc Hh → i ≤ n → acc.length ≤ 90000
  yx : ∀ i H x H', i < n → Y i H x H' → Ex H H'
  turn : ∀ i acc Hh H x H', i < n → Rl i acc Hh → Ex Hh H → Y i H x H' → g x (wipe σ vs) H' fun σ2 H2 => wipe σ2 vs = wipe σ vs ∧ Ex H H2 ∧
    ∀ X', Sub X X' → Ck X' sc N R S G B → sTs X' ifs σ2 H2 fun b H3 => if b = true then ∀ X', Sub X X' → Ck X' sc N R S G B → sE X' elt σ2 H3 fun y H4 => LcEnd Rl i acc Hh H (some y) H4 else LcEnd Rl i acc Hh H none H3
  done : ∀ acc D H', New H1 D (.lst acc) H' → (∃ Hh, Rl n acc Hh ∧ Ex Hh H' ∧ Ex H1 Hh ∧ Hh D = none) → Q (.ref D) H'
section
variable {X : Cx} {sc scope : Scope} {N R S G B R' G' : List Str} {own : List (Str × Nat)} {σ : St} {H : Hp} {Q : VK} {elt tg iter : Expr} {ifs : List Expr} {pos : Pos} {g : TG}
theorem pTs : PTs X ifs (sTs X ifs) := ⟨fun pins s _ _ _ I h => h.run pins s I⟩
theorem oTs {t : TT} (h : PTs X ifs t) {QT : Bool → Hp → Prop} (q : t σ H QT) : sTs X ifs σ H QT := ⟨fun pins s I => h.run pins s σ H QT I q⟩
theorem ts_nil {QT : Bool → Hp → Prop} (q : QT true H) : sTs X [] σ H QT := oTs pts_nil q
theorem ts_one {c : Expr} {QT : Bool → Hp → Prop} (q : sT X c σ H QT) : sTs X [c] σ H QT := oTs (pts_one pT) q
theorem Sub.blk {s : Shared} {H0 : Hp} {ce : Env} {fp : List Addr} : Sub X (X.blk s H0 scope ce fp) := ⟨rfl, rfl, fun _ _ h => ⟨h.ex⟩, rfl, rfl, rfl, rfl⟩
theorem Sub.refl : Sub X X := ⟨rfl, rfl, fun _ _ h => h, rfl, rfl, rfl, rfl⟩
theorem Sub.trans {X1 X2 : Cx} (a : Sub X X1) (b : Sub X1 X2) : Sub X X2 := ⟨b.K.trans a.K, b.mg.trans a.mg, fun f sp h => b.fk f sp (a.fk f sp h), b.un.trans a.un, b.pr.trans a.pr, b.w.trans a.w, b.base.trans a.base⟩

/-- for every block of this comprehension -/
abbrev allB (X : Cx) (scope : Scope) (P : Cx → Prop) : Prop := ∀ (s : Shared) (H0 : Hp) (Ca : Addr) (cl : List (Str × Addr)) (fp : List Addr), P (X.blk s H0 scope (compEnvC scope cl Ca X.env) fp)
theorem lc_read [C : Ck X sc N R S G B] (hb : blkAll N sc scope own R' G' = true) (gm : ∀ v σ H (Q Q' : St → Hp → Prop), (∀ σ' H', Q σ' H' → Q' σ' H') → g v σ H Q → g v σ H Q')
    (q : sI X tg iter σ H fun J H1 => ∃ n Gd Y Rl, LcAsk X (relS scope sc) N R' (own.map (·.1)) G' B (own.map (·.2)) g elt ifs σ J H1 Q n Gd Y Rl) :
    tLc (sI X tg iter) g (fun σ H Q => allB X scope fun X' => sTs X' ifs σ H Q) (fun σ H Q => allB X scope fun X' => sE X' elt σ H Q) (own.map (·.2)) σ H Q := by
  refine sI_mono (fun J H2 h2 => ?_) q
  obtain ⟨n, Gd, Y, Rl, A⟩ := h2
  refine fun D hD => ?_
  refine lc_it (g := g) (tt := fun σ H Q => allB X scope fun X' => sTs X' ifs σ H Q) (te := fun σ H Q => allB X scope fun X' => sE X' elt σ H Q) (vs := own.map (·.2)) (σ := σ) (H1 := H2) (D := D) (Qd := fun H => Q (.ref D) H) A.wk (fun i Hc => ∃ acc, Hc D = some (.lst acc) ∧ Rl i acc (hid Hc D) ∧ Ex H2 (hid Hc D) ∧ i ≤ n) ?_ ?_ ?_ ?_
  · refine ⟨[], upd_same, ?_, hid_in (Ex.new hD) hD, Nat.zero_le _⟩
    rw [hid_upd]
    have e : hid H2 D = H2 := by
      funext b
      unfold hid
      by_cases hb : b = D
      · rw [if_pos hb, hb, hD]
      · rw [if_neg hb]
    rw [e]
    exact A.r0
  · rintro i Hc hi ⟨acc, _, r, _⟩
    exact A.gd i acc _ Hc r hid_of
  · rintro i x Hc H' hi ⟨acc, hc, r, ex, hin⟩ y
    refine gm _ _ _ _ _ (fun σ2 H2' z => ?_) (A.turn i acc (hid Hc D) Hc x H' hi r hid_of y)
    obtain ⟨z1, z2, z3⟩ := z
    have fin : ∀ (y : Option V) (H4 : Hp), LcEnd Rl i acc (hid Hc D) Hc y H4 → H4 D = some (.lst acc) ∧ Rl (i + 1) (acc ++ y.toList) (hid H4 D) ∧ Ex H2 (hid H4 D) := fun y H4 ⟨e4, k⟩ => by
      refine ⟨e4 D _ hc, k _ (hid_ex e4) (fun r' o h1 h2 => hid_new h2 ?_), ex.trans (hid_ex e4)⟩
      intro z
      rw [z, hc] at h1
      cases h1
    refine ⟨z1, fun s' H0 Ca cl fp' => ⟨fun pins' s'' I' => ?_⟩⟩
    refine thn ((z3 _ Sub.blk (Ck.ofBlk hb s' H0 Ca cl fp')).run pins' s'' I') fun b s3 ⟨H3, I3, q3⟩ => ⟨H3, I3, ?_⟩
    cases b with
    | true =>
      rw [if_pos rfl] at q3 ⊢
      refine fun s5 H05 Ca5 cl5 fp5 => ⟨fun pins5 s6 I6 => ?_⟩
      refine thn ((q3 _ Sub.blk (Ck.ofBlk hb s5 H05 Ca5 cl5 fp5)).run pins5 s6 I6) fun u s7 ⟨y, H4, I4, r4, q4⟩ => ⟨y, H4, I4, r4, ?_⟩
      obtain ⟨a1, a2, a3⟩ := fin _ _ q4
      have l := A.len i acc _ r (by omega)
      refine ⟨acc, a1, Evl.sz_lt (by omega), acc ++ [y], upd_same, ?_, ?_, hi⟩
      · rw [hid_upd]; exact a2
      · rw [hid_upd]; exact a3
    | false =>
      rw [if_neg Bool.false_ne_true] at q3 ⊢
      obtain ⟨a1, a2, a3⟩ := fin _ _ q3
      exact ⟨acc, a1, by simpa using a2, a3, hi⟩
  · rintro Hc ⟨acc, hc, r, ex, _⟩
    refine A.done acc D Hc ⟨hD, ex.trans hid_of, hc⟩ ⟨_, r, hid_of, ex, ?_⟩
    unfold hid
    rw [if_pos rfl]
/-- [elt for tg in iter if ..] as a value -/
theorem e_lc [C : Ck X sc N R S G B] (own : List (Str × Nat)) (R' G' : List Str) (hb : blkAll N sc scope own R' G' = true) (gm : ∀ v σ H (Q Q' : St → Hp → Prop), (∀ σ' H', Q σ' H' → Q' σ' H') → g v σ H Q → g v σ H Q')
    (hg : ∀ X', Ck X' (relS scope sc) N R' (own.map (·.1)) G' B → X'.K = X.K → PG X' tg g)
    (q : sI X tg iter σ H fun J H1 => ∃ n Gd Y Rl, LcAsk X (relS scope sc) N R' (own.map (·.1)) G' B (own.map (·.2)) g elt ifs σ J H1 Q n Gd Y Rl)
    (hs : ∀ x, foldedSetIterable iter X.env x = pure x := by intro _; rfl) : sE X (.ListComp elt [⟨tg, iter, ifs, 0⟩] scope pos) σ H Q :=
  oE (pe_lc C.calm C.nd pI (blkOk_of hb) (fun s H Ca cl fp => hg _ (Ck.ofBlk hb s H Ca cl fp) rfl) (fun s H Ca cl fp => ⟨fun pins s' _ _ _ I h => (h s H Ca cl fp).run pins s' I⟩)
    (fun s H Ca cl fp => ⟨fun pins s' _ _ _ I h => (h s H Ca cl fp).run pins s' I⟩) hs) (lc_read hb gm q)
/-- the name at the left is a plain local of a def, no name of the comprehension -/
def lcTo (sc scope : Scope) (y : Str) (l1 l2 : Nat) : Bool := (match sc.kind with | .function => true | _ => false) && decide (sc.names.lookup y = some .local) && (l1 == l2) && !(scope.names.any fun (n, k) => n == y && (k == .local || k == .cell))
/-- y = [elt for ..] on one line, y a plain local -/
theorem b_lc [C : Ck X sc N R S G B] {y : Str} {py spos : Pos} {rest : List Stmt} {D : Ends} (own : List (Str × Nat)) (R' G' : List Str) (hb : blkAll N sc scope own R' G' = true) (gm : ∀ v σ H (Q Q' : St → Hp → Prop), (∀ σ' H', Q σ' H' → Q' σ' H') → g v σ H Q → g v σ H Q')
    (hg : ∀ X', Ck X' (relS scope sc) N R' (own.map (·.1)) G' B → X'.K = X.K → PG X' tg g)
    (hy : lcTo sc scope y py.line pos.line = true) [m : Mm N y]
    (q : sI X tg iter σ H fun J H1 => ∃ n Gd Y Rl, LcAsk X (relS scope sc) N R' (own.map (·.1)) G' B (own.map (·.2)) g elt ifs σ J H1 (fun v H1 => ∃ σ', Put N σ y v σ' ∧ sB X rest D σ' H1) n Gd Y Rl)
    (hs : ∀ x, foldedSetIterable iter X.env x = pure x := by intro _; rfl) : sB X (.Assign [.Name y py] (.ListComp elt [⟨tg, iter, ifs, 0⟩] scope pos) spos :: rest) D σ H := by
  unfold lcTo at hy
  simp only [Bool.and_eq_true, Bool.not_eq_true', decide_eq_true_eq] at hy
  obtain ⟨⟨⟨h1, h2⟩, h3⟩, h4⟩ := hy
  obtain ⟨i, hi⟩ := List.getElem?_of_mem m.mem
  have k1 : X.env.scope.names.lookup y = some .local := by rw [C.sc]; exact h2
  have k0 : X.env.scope.kind = .function := by
    rw [C.sc]
    revert h1
    cases sc.kind <;> intro z <;> first | rfl | cases z
  refine oB (pss_cons (ps_setLc (i := i) (tt := fun σ H Q => allB X scope fun X' => sTs X' ifs σ H Q) (te := fun σ H Q => allB X scope fun X' => sE X' elt σ H Q) C.calm C.nd (by rw [C.nm]; exact hi) k1 (sw_true k0 k1 h3 h4) pI (blkOk_of hb) (fun s H Ca cl fp => hg _ (Ck.ofBlk hb s H Ca cl fp) rfl) (fun s H Ca cl fp => ⟨fun pins s' _ _ _ I h => (h s H Ca cl fp).run pins s' I⟩)
    (fun s H Ca cl fp => ⟨fun pins s' _ _ _ I h => (h s H Ca cl fp).run pins s' I⟩) hs) pB) ?_
  have z := lc_read (X := X) (Q := fun v H1 => sB X rest D (σ.set i (some v)) H1) hb gm (elt := elt) (ifs := ifs) (tg := tg) (iter := iter) (σ := σ) (H := H) (g := g) (R' := R') (G' := G') ?_
  · exact z
  · refine sI_mono (fun J H2 h2 => ?_) q
    obtain ⟨n, Gd, Y, Rl, A⟩ := h2
    refine ⟨n, Gd, Y, Rl, ⟨A.wk, A.r0, A.gd, A.len, A.yx, A.turn, fun acc D' H' nw z => ?_⟩⟩
    obtain ⟨σ', pu, k⟩ := A.done acc D' H' nw z
    obtain ⟨j, j1, j2⟩ := pu.ix
    have nd := C.nd
    rw [C.nm] at nd
    have e : j = i := nodup_ix nd j1 hi
    rw [e] at j2
    rw [j2] at k
    exact k
end
end L2.Z
namespace L2.Z
open PySem PySem.Spec PyProof.Rows
open Evl (Ex)
/-! ### comprehensions whose elements are plain values -/
theorem gName_mono {i : Nat} : ∀ v σ H (Q Q' : St → Hp → Prop), (∀ σ' H', Q σ' H' → Q' σ' H') → gName i v σ H Q → gName i v σ H Q' := fun _ _ _ _ _ m h => m _ _ h
theorem set_none_set {σ : St} {i : Nat} {o o' : Option V} : (σ.set i o).set i o' = σ.set i o' := List.set_set ..
theorem filter_succ {n : Nat} {p : Nat → Bool} {f : Nat → V} : ((List.range (n + 1)).filter p).map f = ((List.range n).filter p).map f ++ (if p n = true then some (f n) else none).toList := by
  rw [List.range_succ, List.filter_append, List.map_append]
  congr 1
  by_cases h : p n = true
  · rw [if_pos h, List.filter_cons, if_pos h]; rfl
  · rw [if_neg h, List.filter_cons, if_neg h]; rfl
theorem filter_len {n : Nat} {p : Nat → Bool} {f : Nat → V} : (((List.range n).filter p).map f).length ≤ n := by
  rw [List.length_map]
  have h := List.length_filter_le p (List.range n)
  rwa [List.length_range] at h
section
variable {X : Cx} {sc : Scope} {N R S G B : List Str} {σ : St} {H1 : Hp} {Q : VK} {elt : Expr} {ifs : List Expr} {J : It} {n : Nat} {Gd : Hp → Prop} {It' : Nat → V → Prop} {i0 : Nat}
/-- what one turn says: the test, then the element -/
def Turn1 (X : Cx) (sc : Scope) (N R S G B : List Str) (elt : Expr) (ifs : List Expr) (σ2 : St) (Hc : Hp) (p : Bool) (v : V) : Prop :=
  ∀ X', Sub X X' → Ck X' sc N R S G B → sTs X' ifs σ2 Hc fun b H3 => Ex Hc H3 ∧ b = p ∧ (b = true → ∀ X', Sub X X' → Ck X' sc N R S G B → sE X' elt σ2 H3 fun y H4 => Ex Hc H4 ∧ y = v)
theorem askV (w : Walk J n Gd (fun i H x H' => H' = H ∧ It' i x)) (hG : ∀ H, Ex H1 H → Gd H) (hn : n ≤ 40000) (p : Nat → Bool) (f : Nat → V)
    (turn : ∀ i x Hc, i < n → It' i x → Ex H1 Hc → Turn1 X sc N R S G B elt ifs (σ.set i0 (some x)) Hc (p i) (f i))
    (done : ∀ D H', New H1 D (.lst (((List.range n).filter p).map f)) H' → Q (.ref D) H') :
    LcAsk X sc N R S G B [i0] (gName i0) elt ifs σ J H1 Q n Gd (fun i H x H' => H' = H ∧ It' i x) (fun i acc Hh => acc = ((List.range i).filter p).map f ∧ Ex H1 Hh) where
  wk := w
  r0 := ⟨rfl, Ex.refl _⟩
  gd := fun i acc Hh H h e => hG H (h.2.trans e)
  len := fun i acc Hh h hi => by rw [h.1]; exact Nat.le_trans filter_len (by omega)
  yx := fun i H x H' _ h => by rw [h.1]; exact Ex.refl _
  turn := fun i acc Hh H x H' hi r e y => by
    obtain ⟨rfl, hx⟩ := y
    obtain ⟨ra, re⟩ := r
    have ew : (wipe σ [i0]).set i0 (some x) = σ.set i0 (some x) := set_none_set
    have e2 : wipe (σ.set i0 (some x)) [i0] = wipe σ [i0] := set_none_set
    show wipe ((wipe σ [i0]).set i0 (some x)) [i0] = wipe σ [i0] ∧ Ex H' H' ∧ _
    rw [ew]
    refine ⟨e2, Ex.refl _, fun X' s c => ?_⟩
    refine ⟨fun pins s' I => thn ((turn i x H' hi hx (re.trans e) X' s c).run pins s' I) fun b s3 ⟨H3, I3, e3, hb, q3⟩ => ⟨H3, I3, ?_⟩⟩
    cases b with
    | true =>
      rw [if_pos rfl]
      refine fun X2 s2 c2 => sE_mono (fun y H4 ⟨e5, hy⟩ => ⟨e5, fun G4 eg _ => ⟨?_, re.trans eg⟩⟩) (q3 rfl X2 s2 c2)
      rw [ra, filter_succ, ← hb, if_pos rfl, hy]
    | false =>
      rw [if_neg Bool.false_ne_true]
      refine ⟨e3, fun G4 eg _ => ⟨?_, re.trans eg⟩⟩
      rw [ra, filter_succ, ← hb, if_neg Bool.false_ne_true]
  done := fun acc D H' nw ⟨Hh, ⟨h1, h2⟩, _⟩ => by
    subst h1
    exact done D H' nw
end
section
variable {X : Cx} {sc scope : Scope} {N R S G B : List Str} {σ : St} {H : Hp} {Q : VK} {elt l a b : Expr} {ifs : List Expr} {x0 : Str} {pos px pr pc : Pos}
theorem hg1 [C : Ck X sc N R S G B] {i0 : Nat} {R' G' : List Str} (hb : blkAll N sc scope [(x0, i0)] R' G' = true) : ∀ X', Ck X' (relS scope sc) N R' [x0] G' B → X'.K = X.K → PG X' (.Name x0 px) (gName i0) := fun X' c _ => by
  have hi : N[i0]? = some x0 := by
    unfold blkAll at hb
    simp only [Bool.and_eq_true] at hb
    exact (blkOk_by hb.1.1.1).ix (x0, i0) (List.Mem.head _)
  obtain ⟨k1, k2⟩ := c.sto x0 (List.Mem.head _)
  exact pg_name c.nd (by rw [c.nm]; exact hi) k1 k2
theorem ix_own {i0 : Nat} {R' G' : List Str} (hb : blkAll N sc scope [(x0, i0)] R' G' = true) : N[i0]? = some x0 := by
  unfold blkAll at hb
  simp only [Bool.and_eq_true] at hb
  exact (blkOk_by hb.1.1.1).ix (x0, i0) (List.Mem.head _)
theorem Put.eq {v : V} {σ2 : St} {i0 : Nat} (p : Put N σ x0 v σ2) (nd : N.Nodup) (hi : N[i0]? = some x0) : σ2 = σ.set i0 (some v) := by
  obtain ⟨i, h1, h2⟩ := p.ix
  rw [nodup_ix nd hi h1]
  exact h2
/-- the sources: a list, range(n), range(a, b) -/
inductive Src (X : Cx) (σ : St) (H : Hp) : Expr → (It → Nat → (Hp → Prop) → (Nat → V → Prop) → Hp → Prop) → Prop where
  | mk {e : Expr} {T : It → Nat → (Hp → Prop) → (Nat → V → Prop) → Hp → Prop} : Src X σ H e T
theorem i_list {tg : Expr} {Rr : It → Hp → Prop} (q : sE X l σ H fun v H1 => ∃ a xs, v = .ref a ∧ SqL X.K H1 a xs ∧ Rr (Itl X.K a) H1) : sI X tg l σ H Rr :=
  oI (pi_list pE) (sE_mono (fun v H1 ⟨a, xs, e, s, r⟩ => ⟨a, e, ⟨xs, s⟩, r⟩) q)
theorem i_r1 [C : Ck X sc N R S G B] [m : Mm G "range"] [mb : Mm B "range"] {tg : Expr} {Rr : It → Hp → Prop} (q : sE X a σ H fun v H1 => ∃ n : Int, v = .int n ∧ n ≤ 40000 ∧ -40000 ≤ n ∧ Rr (Itr 0 n.toNat) H1)
    (hs : starEach [a] X.env = [(false, eval a X.env)] := by rfl) : sI X tg (.Call (.Name "range" pr) [a] [] pc) σ H Rr := by
  refine oI (pi_range1 (C.glo _ m.mem).1 (C.blt _ mb.mem) (pa_cons pE pa_nil hs) hs) ?_
  exact sE_mono (fun v H1 ⟨n, e, h1, h2, r⟩ => ⟨n, by rw [e], by omega, by omega, r⟩) q
theorem i_r2 [C : Ck X sc N R S G B] [m : Mm G "range"] [mb : Mm B "range"] {tg : Expr} {Rr : It → Hp → Prop} (q : sE X a σ H fun v H1 => sE X b σ H1 fun v2 H2 => ∃ i n : Int, v = .int i ∧ v2 = .int n ∧ (n ≤ 40000 ∧ -40000 ≤ n ∧ i ≤ 40000 ∧ -40000 ≤ i) ∧ Rr (Itr i (n - i).toNat) H2)
    (hs2 : starEach [b] X.env = [(false, eval b X.env)] := by rfl) (hs : starEach [a, b] X.env = (false, eval a X.env) :: starEach [b] X.env := by rfl) : sI X tg (.Call (.Name "range" pr) [a, b] [] pc) σ H Rr := by
  refine oI (pi_range2 (C.glo _ m.mem).1 (C.blt _ mb.mem) (pa_cons pE (pa_cons pE pa_nil hs2) hs) (by rw [hs, hs2]) hs2) ?_
  exact sE_mono (fun v H1 z => sE_mono (fun v2 H2 ⟨i, n, e, e2, h, r⟩ => ⟨i, n, by rw [e, e2], ⟨by omega, by omega, by omega, by omega⟩, r⟩) z) q
variable {rest : List Stmt} {D : Ends} {y : Str} {py spos : Pos}
/-- over a list -/
theorem e_lcL [C : Ck X sc N R S G B] (i0 : Nat) (R' G' : List Str) (hb : blkAll N sc scope [(x0, i0)] R' G' = true)
    (q : sE X l σ H fun v H1 => ∃ a xs, v = .ref a ∧ SqL X.K H1 a xs ∧ xs.length ≤ 40000 ∧ ∃ (p : Nat → Bool) (f : Nat → V),
      (∀ (i : Nat) x Hc, xs[i]? = some x → Ex H1 Hc → ∃ σ2, Put N σ x0 x σ2 ∧ Turn1 X (relS scope sc) N R' [x0] G' B elt ifs σ2 Hc (p i) (f i)) ∧
      ∀ D H', New H1 D (.lst (((List.range xs.length).filter p).map f)) H' → Q (.ref D) H')
    (hs : ∀ x, foldedSetIterable l X.env x = pure x := by intro _; rfl) : sE X (.ListComp elt [⟨.Name x0 px, l, ifs, 0⟩] scope pos) σ H Q := by
  have nd := C.nd
  rw [C.nm] at nd
  refine e_lc [(x0, i0)] R' G' hb gName_mono (hg1 hb) (i_list (sE_mono (fun v H1 h => ?_) q)) hs
  obtain ⟨a, xs, e, s, hl, p, f, t, d⟩ := h
  refine ⟨a, xs, e, s, xs.length, _, _, _, askV walk_list (fun H2 e2 => Evl.ex_l e2 s) hl p f (fun i x Hc hi hx ec => ?_) d⟩
  obtain ⟨σ2, pu, tt⟩ := t i x Hc hx ec
  rw [pu.eq nd (ix_own hb)] at tt
  exact tt
theorem e_lcR [C : Ck X sc N R S G B] [m : Mm G "range"] [mb : Mm B "range"] (i0 : Nat) (R' G' : List Str) (hb : blkAll N sc scope [(x0, i0)] R' G' = true)
    (q : sE X a σ H fun v H1 => ∃ n : Int, v = .int n ∧ n ≤ 40000 ∧ -40000 ≤ n ∧ ∃ (p : Nat → Bool) (f : Nat → V),
      (∀ (i : Nat) Hc, i < n.toNat → Ex H1 Hc → ∃ σ2, Put N σ x0 (.int i) σ2 ∧ Turn1 X (relS scope sc) N R' [x0] G' B elt ifs σ2 Hc (p i) (f i)) ∧
      ∀ D H', New H1 D (.lst (((List.range n.toNat).filter p).map f)) H' → Q (.ref D) H')
    (hst : starEach [a] X.env = [(false, eval a X.env)] := by rfl) (hs : ∀ x, foldedSetIterable (.Call (.Name "range" pr) [a] [] pc) X.env x = pure x := by intro _; rfl) : sE X (.ListComp elt [⟨.Name x0 px, .Call (.Name "range" pr) [a] [] pc, ifs, 0⟩] scope pos) σ H Q := by
  have nd := C.nd
  rw [C.nm] at nd
  refine e_lc [(x0, i0)] R' G' hb gName_mono (hg1 hb) (i_r1 (sE_mono (fun v H1 h => ?_) q) hst) hs
  obtain ⟨n, e, h1, h2, p, f, t, d⟩ := h
  refine ⟨n, e, h1, h2, n.toNat, _, _, _, askV walk_range (fun H2 e2 => trivial) (by omega) p f (fun i x Hc hi hx ec => ?_) d⟩
  obtain ⟨σ2, pu, tt⟩ := t i Hc hi ec
  rw [pu.eq nd (ix_own hb)] at tt
  have e0 : x = .int i := by rw [hx]; show V.int (0 + (i : Int)) = _; rw [Int.zero_add]
  rw [e0]
  exact tt
theorem e_lcR2 [C : Ck X sc N R S G B] [m : Mm G "range"] [mb : Mm B "range"] (i0 : Nat) (R' G' : List Str) (hb : blkAll N sc scope [(x0, i0)] R' G' = true)
    (q : sE X a σ H fun v H1 => sE X b σ H1 fun v2 H2 => ∃ lo n : Int, v = .int lo ∧ v2 = .int n ∧ (n ≤ 40000 ∧ -40000 ≤ n ∧ lo ≤ 40000 ∧ 0 ≤ lo) ∧ ∃ (p : Nat → Bool) (f : Nat → V),
      (∀ (i : Nat) Hc, i < (n - lo).toNat → Ex H2 Hc → ∃ σ2, Put N σ x0 (.int (lo + i)) σ2 ∧ Turn1 X (relS scope sc) N R' [x0] G' B elt ifs σ2 Hc (p i) (f i)) ∧
      ∀ D H', New H2 D (.lst (((List.range (n - lo).toNat).filter p).map f)) H' → Q (.ref D) H')
    (hs2 : starEach [b] X.env = [(false, eval b X.env)] := by rfl) (hs1 : starEach [a, b] X.env = (false, eval a X.env) :: starEach [b] X.env := by rfl) (hs : ∀ x, foldedSetIterable (.Call (.Name "range" pr) [a, b] [] pc) X.env x = pure x := by intro _; rfl) :
    sE X (.ListComp elt [⟨.Name x0 px, .Call (.Name "range" pr) [a, b] [] pc, ifs, 0⟩] scope pos) σ H Q := by
  have nd := C.nd
  rw [C.nm] at nd
  refine e_lc [(x0, i0)] R' G' hb gName_mono (hg1 hb) (i_r2 (sE_mono (fun v H1 z => sE_mono (fun v2 H2 h => ?_) z) q) hs2 hs1) hs
  obtain ⟨lo, n, e, e2, hh, p, f, t, d⟩ := h
  refine ⟨lo, n, e, e2, by omega, (n - lo).toNat, _, _, _, askV walk_range (fun H2 e2 => trivial) (by omega) p f (fun i x Hc hi hx ec => ?_) d⟩
  obtain ⟨σ2, pu, tt⟩ := t i Hc hi ec
  rw [pu.eq nd (ix_own hb)] at tt
  rw [hx]
  exact tt
end
end L2.Z
namespace L2.Z
open PySem PySem.Spec PyProof.Rows
open Evl (Ex)
/-! ### operators, by what stands at both sides -/
theorem exAt {H H' : Hp} {p : Addr} {o : HO} (e : Ex H H') (h : H p = some o) : H' p = some o := e p o h
section
variable {X : Cx} {sc : Scope} {N R S G B : List Str} {σ : St} {H : Hp} {Q : VK} {x : Str} {v : V} {pos p : Pos} {e a b c : Expr} {es : List Expr} {i j : Int} {u w : Bool} {l m : Addr} {xs ys : List V}
/-- + of numbers, of lists -/
def rAdd' : R2 := fun x y H Q => rI0 (fun i j => .int (i + j)) x y H Q ∨ rCat x y H Q
def rSub' : R2 := rI0 fun i j => .int (i - j)
/-- * of numbers (together below a hundred million bits), of a list and a number -/
def CMulX (i j : Int) : Prop := i.natAbs.log2 + j.natAbs.log2 < 100000000
def rMul' : R2 := fun x y H Q => rI CMulX (fun i j => .int (i * j)) x y H Q ∨ rRep x y H Q
def rMod' : R2 := rI (fun _ j => 0 < j) fun i j => .int (i % j)
def rDiv' : R2 := rI CDiv fun i j => .int (i / j)
def rPow' : R2 := rI CPow fun i j => .int (i ^ j.toNat)
def rShr' : R2 := rI (fun _ j => 0 ≤ j) fun i j => .int (i / 2 ^ j.toNat)
def rAnd' : R2 := rI0 fun i j => .int (Builtin.bitAnd i j)
theorem CMulX.ok {i j : Int} (h : CMulX i j) : IntMulOk i j := by
  have b : ∀ x : Int, Builtin.Int.intBits x ≤ x.natAbs.log2 + 1 := fun x => by
    unfold Builtin.Int.intBits
    split <;> omega
  have h1 := b i
  have h2 := b j
  have h3 : i.natAbs.log2 + j.natAbs.log2 < 100000000 := h
  have e : bitsLine = 134217728 := by decide
  unfold IntMulOk
  intro z
  rw [Bool.and_eq_true] at z
  have z2 := z.2
  unfold Builtin.Int.intTooBig at z2
  have z3 := of_decide_eq_true z2
  rw [e] at z3
  omega
theorem op_mulX : OpR X (binaryOp .Mult) (rI CMulX fun i j => .int (i * j)) := opI fun _ _ _ _ _ _ _ hc q => mul_int q hc.ok
theorem op_mulS : OpR X (binaryOp .Mult) (rI CMul fun i j => .int (i * j)) := op_mul
/-- * with a small factor, of wide ones, of a list -/
def rMul3 : R2 := fun x y H Q => rI CMul (fun i j => .int (i * j)) x y H Q ∨ rMul' x y H Q
theorem e_add (q : sE X a σ H fun x H1 => sE X b σ H1 fun y H2 => rAdd' x y H2 Q) : sE X (.BinOp a .Add b pos) σ H Q := e_op (r := rAdd') (op_add.or op_cat) q
theorem e_sub (q : sE X a σ H fun x H1 => sE X b σ H1 fun y H2 => rSub' x y H2 Q) : sE X (.BinOp a .Sub b pos) σ H Q := e_op (r := rSub') op_sub q
theorem e_mul (q : sE X a σ H fun x H1 => sE X b σ H1 fun y H2 => rMul3 x y H2 Q) : sE X (.BinOp a .Mult b pos) σ H Q := e_op (r := rMul3) (op_mul.or (op_mulX.or op_rep)) q
theorem e_mod (q : sE X a σ H fun x H1 => sE X b σ H1 fun y H2 => rMod' x y H2 Q) : sE X (.BinOp a .Mod b pos) σ H Q := e_op (r := rMod') op_mod q
theorem e_div (q : sE X a σ H fun x H1 => sE X b σ H1 fun y H2 => rDiv' x y H2 Q) : sE X (.BinOp a .FloorDiv b pos) σ H Q := e_op (r := rDiv') op_fdiv q
theorem e_pow (q : sE X a σ H fun x H1 => sE X b σ H1 fun y H2 => rPow' x y H2 Q) : sE X (.BinOp a .Pow b pos) σ H Q := e_op (r := rPow') op_pow q
theorem e_shr (q : sE X a σ H fun x H1 => sE X b σ H1 fun y H2 => rShr' x y H2 Q) : sE X (.BinOp a .RShift b pos) σ H Q := e_op (r := rShr') op_shr q
theorem e_bitand (q : sE X a σ H fun x H1 => sE X b σ H1 fun y H2 => rAnd' x y H2 Q) : sE X (.BinOp a .BitAnd b pos) σ H Q := e_op (r := rAnd') op_and q
def rNeg (x : V) (H : Hp) (Q : VK) : Prop := ∃ i, x = .int i ∧ Q (.int (-i)) H
theorem x_neg (q : Q (.int (-i)) H) : rNeg (.int i) H Q := ⟨i, rfl, q⟩
theorem e_neg (q : sE X a σ H fun x H1 => rNeg x H1 Q) : sE X (.UnaryOp .USub a pos) σ H Q := e_un (r := rU fun i => .int (-i)) un_neg q
theorem x_add (q : Q (.int (i + j)) H) : rAdd' (.int i) (.int j) H Q := .inl ⟨i, j, rfl, rfl, q⟩
theorem x_cat (h1 : H l = some (.lst xs)) (h2 : H m = some (.lst ys)) (hz : xs.length + ys.length ≤ 100000) (q : ∀ p H', New H p (.lst (xs ++ ys)) H' → Q (.ref p) H') : rAdd' (.ref l) (.ref m) H Q :=
  .inr ⟨l, m, xs, ys, rfl, rfl, h1, h2, Evl.sz_of hz, fun p hp => q p _ (New.mk' hp)⟩
theorem x_sub (q : Q (.int (i - j)) H) : rSub' (.int i) (.int j) H Q := ⟨i, j, rfl, rfl, q⟩
theorem x_mul (hc : CMul i j) (q : Q (.int (i * j)) H) : rMul3 (.int i) (.int j) H Q := .inl ⟨i, j, rfl, rfl, hc, q⟩
theorem x_mulW (hc : CMulX i j) (q : Q (.int (i * j)) H) : rMul3 (.int i) (.int j) H Q := .inr (.inl ⟨i, j, rfl, rfl, hc, q⟩)
theorem x_rep (h1 : H l = some (.lst xs)) (hz : xs.length * j.toNat ≤ 100000) (h2 : -1000 ≤ j) (h3 : j ≤ 100000) (q : ∀ p H', New H p (.lst (List.replicate j.toNat xs).flatten) H' → Q (.ref p) H') : rMul3 (.ref l) (.int j) H Q :=
  .inr (.inr ⟨l, j, xs, rfl, rfl, h1, by omega, by omega, Evl.sz_of hz, fun p hp => q p _ (New.mk' hp)⟩)
theorem x_mod (hc : 0 < j) (q : Q (.int (i % j)) H) : rMod' (.int i) (.int j) H Q := ⟨i, j, rfl, rfl, hc, q⟩
theorem x_div (hc : 0 < j) (hd : j < 1073741824) (q : Q (.int (i / j)) H) : rDiv' (.int i) (.int j) H Q := ⟨i, j, rfl, rfl, ⟨hc, hd⟩, q⟩
theorem x_pow (h1 : 0 ≤ j) (h2 : j ≤ 1000) (h3 : i.natAbs < 1000) (q : Q (.int (i ^ j.toNat)) H) : rPow' (.int i) (.int j) H Q := ⟨i, j, rfl, rfl, ⟨h1, by omega, by omega⟩, q⟩
theorem x_shr (h1 : 0 ≤ j) (q : Q (.int (i / 2 ^ j.toNat)) H) : rShr' (.int i) (.int j) H Q := ⟨i, j, rfl, rfl, h1, q⟩
theorem x_bitand (q : Q (.int (Builtin.bitAnd i j)) H) : rAnd' (.int i) (.int j) H Q := ⟨i, j, rfl, rfl, q⟩

/-! ### comparisons -/
def rLt' : R2 := rI0 fun i j => .bl (decide (i < j))
def rLe' : R2 := rI0 fun i j => .bl (decide (i ≤ j))
def rGt' : R2 := rI0 fun i j => .bl (decide (j < i))
def rGe' : R2 := rI0 fun i j => .bl (decide (j ≤ i))
/-- data compared as a whole -/
def rEqP (K : PySem.W.Frag) : R2 := fun x y H Q => ∃ d e, Dp K H x d ∧ Dp K H y e ∧ d.plain = true ∧ e.plain = true ∧ min d.depth e.depth ≤ 60 ∧ Q (.bl (PyData.eqv d e)) H
def rNeP (K : PySem.W.Frag) : R2 := fun x y H Q => ∃ d e, Dp K H x d ∧ Dp K H y e ∧ d.plain = true ∧ e.plain = true ∧ min d.depth e.depth ≤ 60 ∧ Q (.bl (!PyData.eqv d e)) H
theorem op_eqP (hu : X.A.units + 64 < cLine) : OpR X (compareOp .Eq) (rEqP X.K) := fun pins s σ H x y v u Q I rx ry h => by
  obtain ⟨d, e, hd, he, sd, se, l, q⟩ := h
  obtain ⟨as, r1⟩ := Dp.reads I d x v hd rx
  obtain ⟨bs, r2⟩ := Dp.reads I e y u he ry
  exact PySem.SeqAt.eq_plain r1 r2 sd se (by omega) ⟨.bl _, H, I, rfl, q⟩
theorem op_neP (hu : X.A.units + 64 < cLine) : OpR X (compareOp .NotEq) (rNeP X.K) := fun pins s σ H x y v u Q I rx ry h => by
  obtain ⟨d, e, hd, he, sd, se, l, q⟩ := h
  obtain ⟨as, r1⟩ := Dp.reads I d x v hd rx
  obtain ⟨bs, r2⟩ := Dp.reads I e y u he ry
  exact PySem.SeqAt.ne_plain r1 r2 sd se (by omega) ⟨.bl _, H, I, rfl, q⟩
def rEq' (K : PySem.W.Frag) : R2 := fun x y H Q => rEq x y H Q ∨ rEqP K x y H Q
def rNe' (K : PySem.W.Frag) : R2 := fun x y H Q => rNe x y H Q ∨ rNeP K x y H Q
def rIs' : R2 := fun x y H Q => rIsB x y H Q ∨ (y = .non ∧ Q (.bl (decide (x = .non))) H)
def rIn' (K : PySem.W.Frag) : R2 := fun x y H Q => rIn K false x y H Q ∨ rInD K x y H Q
def rNi' (K : PySem.W.Frag) : R2 := fun x y H Q => rIn K true x y H Q ∨ rNotInD K x y H Q
/-- room for the comparison of data -/
class Ru (X : Cx) : Prop where
  ru' : X.A.units + 150 < cLine
theorem Ru.ru (h : Ru X) : X.A.units + 64 < cLine := by have := h.ru'; omega
theorem Ru.ru5 (h : Ru X) : X.A.units + 65 < cLine := by have := h.ru'; omega
instance Ru.blk {s : Shared} {H : Hp} {scope : Scope} {ce : Env} {fp : List Addr} [h : Ru X] : Ru (X.blk s H scope ce fp) := ⟨h.ru'⟩
instance Ru.nox [h : Ru X] : Ru X.nox := ⟨h.ru'⟩
theorem Ru.of {k : Nat} (h : Room k X.A) : Ru X := ⟨by have := h.un; omega⟩
theorem Ru.sub {X' : Cx} [h : Ru X] (s : Sub X X') : Ru X' := ⟨by rw [s.un]; exact h.ru'⟩
theorem x_lt (q : Q (.bl (decide (i < j))) H) : rLt' (.int i) (.int j) H Q := ⟨i, j, rfl, rfl, q⟩
theorem x_le (q : Q (.bl (decide (i ≤ j))) H) : rLe' (.int i) (.int j) H Q := ⟨i, j, rfl, rfl, q⟩
theorem x_gt (q : Q (.bl (decide (j < i))) H) : rGt' (.int i) (.int j) H Q := ⟨i, j, rfl, rfl, q⟩
theorem x_ge (q : Q (.bl (decide (j ≤ i))) H) : rGe' (.int i) (.int j) H Q := ⟨i, j, rfl, rfl, q⟩
theorem dec_I : decide (V.int i = V.int j) = decide (i = j) := decide_eq_decide.mpr ⟨V.int.inj, fun e => by rw [e]⟩
theorem dec_B : decide (V.bl u = V.bl w) = decide (u = w) := decide_eq_decide.mpr ⟨V.bl.inj, fun e => by rw [e]⟩
theorem x_eqI {K : PySem.W.Frag} (q : Q (.bl (decide (i = j))) H) : rEq' K (.int i) (.int j) H Q := .inl ⟨rfl, by rw [dec_I]; exact q⟩
theorem x_neI {K : PySem.W.Frag} (q : Q (.bl (!decide (i = j))) H) : rNe' K (.int i) (.int j) H Q := .inl ⟨rfl, by rw [dec_I]; exact q⟩
theorem x_eqB {K : PySem.W.Frag} (q : Q (.bl (decide (u = w))) H) : rEq' K (.bl u) (.bl w) H Q := .inl ⟨rfl, by rw [dec_B]; exact q⟩
theorem x_neB {K : PySem.W.Frag} (q : Q (.bl (!decide (u = w))) H) : rNe' K (.bl u) (.bl w) H Q := .inl ⟨rfl, by rw [dec_B]; exact q⟩
theorem x_isB (q : Q (.bl (decide (u = w))) H) : rIs' (.bl u) (.bl w) H Q := .inl ⟨u, w, rfl, rfl, q⟩
theorem x_isnB (q : Q (.bl (!decide (u = w))) H) : rNotB (.bl u) (.bl w) H Q := ⟨u, w, rfl, rfl, q⟩
theorem x_isN (q : Q (.bl (decide (v = .non))) H) : rIs' v .non H Q := .inr ⟨rfl, q⟩
theorem c_lt (q : sE X a σ H fun x H1 => sE X b σ H1 fun y H2 => rLt' x y H2 Q) : sE X (.Compare a [.Lt] [b] pos) σ H Q := e_cmp (r := rLt') op_lt (nomark _) q
theorem c_le (q : sE X a σ H fun x H1 => sE X b σ H1 fun y H2 => rLe' x y H2 Q) : sE X (.Compare a [.LtE] [b] pos) σ H Q := e_cmp (r := rLe') op_le (nomark _) q
theorem c_gt (q : sE X a σ H fun x H1 => sE X b σ H1 fun y H2 => rGt' x y H2 Q) : sE X (.Compare a [.Gt] [b] pos) σ H Q := e_cmp (r := rGt') op_gt (nomark _) q
theorem c_ge (q : sE X a σ H fun x H1 => sE X b σ H1 fun y H2 => rGe' x y H2 Q) : sE X (.Compare a [.GtE] [b] pos) σ H Q := e_cmp (r := rGe') op_ge (nomark _) q
theorem c_eq [h : Ru X] (q : sE X a σ H fun x H1 => sE X b σ H1 fun y H2 => rEq' X.K x y H2 Q) : sE X (.Compare a [.Eq] [b] pos) σ H Q := e_cmp (r := rEq' X.K) (op_eq.or (op_eqP h.ru)) (nomark _) q
theorem c_ne [h : Ru X] (q : sE X a σ H fun x H1 => sE X b σ H1 fun y H2 => rNe' X.K x y H2 Q) : sE X (.Compare a [.NotEq] [b] pos) σ H Q := e_cmp (r := rNe' X.K) (op_ne.or (op_neP h.ru)) (nomark _) q
theorem c_is (q : sE X a σ H fun x H1 => sE X b σ H1 fun y H2 => rIs' x y H2 Q) : sE X (.Compare a [.Is] [b] pos) σ H Q := e_cmp (r := rIs') (op_isBl.or op_isN) (nomark _) q
theorem c_isn (q : sE X a σ H fun x H1 => sE X b σ H1 fun y H2 => rNotB x y H2 Q) : sE X (.Compare a [.IsNot] [b] pos) σ H Q := e_cmp (r := rNotB) op_notBl (nomark _) q
theorem c_in [h : Ru X] (q : sE X a σ H fun x H1 => sE X b σ H1 fun y H2 => rIn' X.K x y H2 Q) (hm : behindInMarks .In b = false := by rfl) : sE X (.Compare a [.In] [b] pos) σ H Q := e_cmp (r := rIn' X.K) (op_in_seq.or (op_inD h.ru5)) hm q
theorem c_ni [h : Ru X] (q : sE X a σ H fun x H1 => sE X b σ H1 fun y H2 => rNi' X.K x y H2 Q) (hm : behindInMarks .NotIn b = false := by rfl) : sE X (.Compare a [.NotIn] [b] pos) σ H Q := e_cmp (r := rNi' X.K) (op_notIn_seq.or (op_notInD h.ru5)) hm q
/-- a <= b < c and its like -/
def ch (X : Cx) (r r' : R2) (a b c : Expr) (σ : St) (H : Hp) (Q : VK) : Prop := sE X a σ H fun x H1 => sE X b σ H1 fun y H2 => r x y H2 (asB fun k H3 => if k = true then sE X c σ H3 fun z H4 => r' y z H4 Q else Q (.bl false) H3)
theorem c_lelt (q : sE X a σ H fun x H1 => sE X b σ H1 fun y H2 => rLe' x y H2 (asB fun k H3 => if k = true then sE X c σ H3 fun z H4 => rLt' y z H4 Q else Q (.bl false) H3)) (hm : lastMarks [.LtE, .Lt] [b, c] = false := by with_unfolding_all rfl) : sE X (.Compare a [.LtE, .Lt] [b, c] pos) σ H Q := e_chain op_le op_lt q hm
theorem c_lele (q : sE X a σ H fun x H1 => sE X b σ H1 fun y H2 => rLe' x y H2 (asB fun k H3 => if k = true then sE X c σ H3 fun z H4 => rLe' y z H4 Q else Q (.bl false) H3)) (hm : lastMarks [.LtE, .LtE] [b, c] = false := by with_unfolding_all rfl) : sE X (.Compare a [.LtE, .LtE] [b, c] pos) σ H Q := e_chain op_le op_le q hm
/-! the same as tests -/
variable {QT : Bool → Hp → Prop}
theorem t_lt (q : sE X a σ H fun x H1 => sE X b σ H1 fun y H2 => rLt' x y H2 (asB QT)) : sT X (.Compare a [.Lt] [b] pos) σ H QT := t_cmp (r := rLt') op_lt (nomark _) q
theorem t_le (q : sE X a σ H fun x H1 => sE X b σ H1 fun y H2 => rLe' x y H2 (asB QT)) : sT X (.Compare a [.LtE] [b] pos) σ H QT := t_cmp (r := rLe') op_le (nomark _) q
theorem t_gt (q : sE X a σ H fun x H1 => sE X b σ H1 fun y H2 => rGt' x y H2 (asB QT)) : sT X (.Compare a [.Gt] [b] pos) σ H QT := t_cmp (r := rGt') op_gt (nomark _) q
theorem t_ge (q : sE X a σ H fun x H1 => sE X b σ H1 fun y H2 => rGe' x y H2 (asB QT)) : sT X (.Compare a [.GtE] [b] pos) σ H QT := t_cmp (r := rGe') op_ge (nomark _) q
theorem t_eq [h : Ru X] (q : sE X a σ H fun x H1 => sE X b σ H1 fun y H2 => rEq' X.K x y H2 (asB QT)) : sT X (.Compare a [.Eq] [b] pos) σ H QT := t_cmp (r := rEq' X.K) (op_eq.or (op_eqP h.ru)) (nomark _) q
theorem t_ne [h : Ru X] (q : sE X a σ H fun x H1 => sE X b σ H1 fun y H2 => rNe' X.K x y H2 (asB QT)) : sT X (.Compare a [.NotEq] [b] pos) σ H QT := t_cmp (r := rNe' X.K) (op_ne.or (op_neP h.ru)) (nomark _) q
theorem t_is (q : sE X a σ H fun x H1 => sE X b σ H1 fun y H2 => rIs' x y H2 (asB QT)) : sT X (.Compare a [.Is] [b] pos) σ H QT := t_cmp (r := rIs') (op_isBl.or op_isN) (nomark _) q
theorem t_isn (q : sE X a σ H fun x H1 => sE X b σ H1 fun y H2 => rNotB x y H2 (asB QT)) : sT X (.Compare a [.IsNot] [b] pos) σ H QT := t_cmp (r := rNotB) op_notBl (nomark _) q
theorem t_in [h : Ru X] (q : sE X a σ H fun x H1 => sE X b σ H1 fun y H2 => rIn' X.K x y H2 (asB QT)) (hm : behindInMarks .In b = false := by rfl) : sT X (.Compare a [.In] [b] pos) σ H QT := t_cmp (r := rIn' X.K) (op_in_seq.or (op_inD h.ru5)) hm q
theorem t_ni [h : Ru X] (q : sE X a σ H fun x H1 => sE X b σ H1 fun y H2 => rNi' X.K x y H2 (asB QT)) (hm : behindInMarks .NotIn b = false := by rfl) : sT X (.Compare a [.NotIn] [b] pos) σ H QT := t_cmp (r := rNi' X.K) (op_notIn_seq.or (op_notInD h.ru5)) hm q
theorem t_lelt (q : sE X a σ H fun x H1 => sE X b σ H1 fun y H2 => rLe' x y H2 (asB fun k H3 => if k = true then sE X c σ H3 fun z H4 => rLt' y z H4 (asB QT) else QT false H3)) (hm : lastMarks [.LtE, .Lt] [b, c] = false := by with_unfolding_all rfl) : sT X (.Compare a [.LtE, .Lt] [b, c] pos) σ H QT :=
  oT (pt_chain op_le op_lt pE pE pE hm) (sE_mono (fun x H1 z => sE_mono (fun y H2 ⟨i, j, e1, e2, k, e3, q⟩ => ⟨i, j, e1, e2, k, e3, by
    cases k with
    | true => exact q
    | false => exact ⟨false, rfl, q⟩⟩) z) q)
theorem t_lele (q : sE X a σ H fun x H1 => sE X b σ H1 fun y H2 => rLe' x y H2 (asB fun k H3 => if k = true then sE X c σ H3 fun z H4 => rLe' y z H4 (asB QT) else QT false H3)) (hm : lastMarks [.LtE, .LtE] [b, c] = false := by with_unfolding_all rfl) : sT X (.Compare a [.LtE, .LtE] [b, c] pos) σ H QT :=
  oT (pt_chain op_le op_le pE pE pE hm) (sE_mono (fun x H1 z => sE_mono (fun y H2 ⟨i, j, e1, e2, k, e3, q⟩ => ⟨i, j, e1, e2, k, e3, by
    cases k with
    | true => exact q
    | false => exact ⟨false, rfl, q⟩⟩) z) q)
theorem t_call {f : Expr} {kw : List Keyword} (q : sE X (.Call f es kw pos) σ H (asB QT)) : sT X (.Call f es kw pos) σ H QT := t_val q
theorem t_name (q : sE X (.Name x pos) σ H (asB QT)) : sT X (.Name x pos) σ H QT := t_val q
theorem t_sub (q : sE X (.Subscript a b pos) σ H (asB QT)) : sT X (.Subscript a b pos) σ H QT := t_val q

/-! ### data compared as a whole -/
open PySem.W (Datum)
/-- the value v holds the datum d -/
def Dv (K : PySem.W.Frag) (H : Hp) (v : V) {α : Type} [DecidableEq α] [Datum α] (d : α) : Prop := Dp K H v (Datum.toD d)
section
variable {α : Type} [DecidableEq α] [Datum α] {K : PySem.W.Frag} {d d' : α} {v' : V}
theorem x_eqD (h1 : Dv K H v d) (h2 : Dv K H v' d') (q : Q (.bl (decide (d = d'))) H) (h : Datum.depth α ≤ 60 := by decide) : rEq' K v v' H Q :=
  .inr ⟨_, _, h1, h2, Datum.plain d, Datum.plain d', by have := Datum.depth_le d; omega, by rw [Datum.eqv]; exact q⟩
theorem x_neD (h1 : Dv K H v d) (h2 : Dv K H v' d') (q : Q (.bl (!decide (d = d'))) H) (h : Datum.depth α ≤ 60 := by decide) : rNe' K v v' H Q :=
  .inr ⟨_, _, h1, h2, Datum.plain d, Datum.plain d', by have := Datum.depth_le d; omega, by rw [Datum.eqv]; exact q⟩
theorem x_eqP {d e : PyData} (h1 : Dp K H v d) (h2 : Dp K H v' e) (p1 : d.plain = true) (p2 : e.plain = true) (hd : d.depth ≤ 60) (q : Q (.bl (PyData.eqv d e)) H) : rEq' K v v' H Q := .inr ⟨d, e, h1, h2, p1, p2, by omega, q⟩
theorem x_neP {d e : PyData} (h1 : Dp K H v d) (h2 : Dp K H v' e) (p1 : d.plain = true) (p2 : e.plain = true) (hd : d.depth ≤ 60) (q : Q (.bl (!PyData.eqv d e)) H) : rNe' K v v' H Q := .inr ⟨d, e, h1, h2, p1, p2, by omega, q⟩
theorem dpAll_map {β : Type} {f : β → V} {g : β → PyData} : ∀ {l : List β}, (∀ x ∈ l, Dp K H (f x) (g x)) → DpAll K H (l.map f) (l.map g)
  | [], _ => .nil
  | x :: r, h => .cons (h x (List.Mem.head _)) (dpAll_map fun y hy => h y (List.Mem.tail _ hy))
theorem dpAll_pair {β γ : Type} {f : β → V} {g : γ → PyData} : ∀ {l : List β} {l' : List γ}, Paired (fun b c => Dp K H (f b) (g c)) l l' → DpAll K H (l.map f) (l'.map g)
  | _, _, .nil => .nil
  | _, _, .cons h t => .cons h (dpAll_pair t)
theorem dv_int {i : Int} : Dv K H (.int i) i := .int i
theorem dv_bl {b : Bool} : Dv K H (.bl b) b := .bl b
theorem dv_li {ns : List Int} {a : Addr} (h : H a = some (.lst (ns.map V.int))) : Dv K H (.ref a) ns := .lst (SqL.of h) (dpAll_map fun x _ => .int x)
theorem dv_li' {ns : List Int} {a : Addr} (h : SqL K H a (ns.map V.int)) : Dv K H (.ref a) ns := .lst h (dpAll_map fun x _ => .int x)
theorem dv_lb {ns : List Bool} {a : Addr} (h : H a = some (.lst (ns.map V.bl))) : Dv K H (.ref a) ns := .lst (SqL.of h) (dpAll_map fun x _ => .bl x)
theorem dv_nil {a : Addr} (h : H a = some (.lst [])) : Dv K H (.ref a) ([] : List α) := .lst (SqL.of h) .nil
end
end
/-! ### lists of lists -/
/-- a list of lists of numbers: the list at a, its rows at rs -/
class LL (H : Hp) (a : Addr) (rs : outParam (List Addr)) (cs : outParam (List (List Int))) : Prop where
  top : H a = some (.lst (rs.map V.ref))
  row : Paired (fun r c => H r = some (.lst (c.map V.int))) rs cs
theorem pair_mono {α β : Type} {F F' : α → β → Prop} (hm : ∀ a b, F a b → F' a b) : ∀ {l : List α} {l' : List β}, Paired F l l' → Paired F' l l'
  | _, _, .nil => .nil
  | _, _, .cons h t => .cons (hm _ _ h) (pair_mono hm t)
theorem pair_get {α β : Type} {F : α → β → Prop} : ∀ {l : List α} {l' : List β} {i : Nat} {x : α}, Paired F l l' → l[i]? = some x → ∃ y, l'[i]? = some y ∧ F x y
  | _, _, _, _, .nil, h => by simp at h
  | _, _, 0, _, .cons h t, e => by simp at e; subst e; exact ⟨_, rfl, h⟩
  | _, _, i + 1, _, .cons h t, e => by
    obtain ⟨y, h1, h2⟩ := pair_get (i := i) t (by simpa using e)
    exact ⟨y, by simpa using h1, h2⟩
theorem pair_get' {α β : Type} {F : α → β → Prop} : ∀ {l : List α} {l' : List β} {i : Nat} {y : β}, Paired F l l' → l'[i]? = some y → ∃ x, l[i]? = some x ∧ F x y
  | _, _, _, _, .nil, h => by simp at h
  | _, _, 0, _, .cons h t, e => by simp at e; subst e; exact ⟨_, rfl, h⟩
  | _, _, i + 1, _, .cons h t, e => by
    obtain ⟨y, h1, h2⟩ := pair_get' (i := i) t (by simpa using e)
    exact ⟨y, by simpa using h1, h2⟩
theorem pair_mem {α β : Type} {F : α → β → Prop} : ∀ {l : List α} {l' : List β} {x : α}, Paired F l l' → x ∈ l → ∃ y ∈ l', F x y
  | _, _, _, .cons h t, m => by
    rcases List.mem_cons.mp m with e | e
    · subst e; exact ⟨_, List.Mem.head _, h⟩
    · obtain ⟨y, h1, h2⟩ := pair_mem t e
      exact ⟨y, List.Mem.tail _ h1, h2⟩
theorem pair_append {α β : Type} {F : α → β → Prop} : ∀ {l1 l2 : List α} {m1 m2 : List β}, Paired F l1 m1 → Paired F l2 m2 → Paired F (l1 ++ l2) (m1 ++ m2)
  | _, _, _, _, .nil, h => h
  | _, _, _, _, .cons h t, g => .cons h (pair_append t g)
theorem pair_take {α β : Type} {F : α → β → Prop} : ∀ {l : List α} {m : List β} (n : Nat), Paired F l m → Paired F (l.take n) (m.take n)
  | _, _, 0, _ => .nil
  | _, _, n + 1, .nil => .nil
  | _, _, n + 1, .cons h t => .cons h (pair_take n t)
theorem pair_drop {α β : Type} {F : α → β → Prop} : ∀ {l : List α} {m : List β} (n : Nat), Paired F l m → Paired F (l.drop n) (m.drop n)
  | _, _, 0, h => h
  | _, _, n + 1, .nil => .nil
  | _, _, n + 1, .cons h t => pair_drop n t
section
variable {H H' : Hp} {a : Addr} {rs : List Addr} {cs : List (List Int)} {K : PySem.W.Frag}
theorem LL.up (h : LL H a rs cs) (e : Ex H H') : LL H' a rs cs := ⟨e _ _ h.top, pair_mono (fun _ _ q => e _ _ q) h.row⟩
theorem LL.len (h : LL H a rs cs) : rs.length = cs.length := Paired.length h.row
theorem dv_ll (h : LL H a rs cs) : Dv K H (.ref a) cs := .lst (SqL.of h.top) (dpAll_pair (pair_mono (fun r c q => dv_li q) h.row))
theorem dv_ll' {xs : List V} (h1 : H a = some (.lst xs)) (h2 : xs = rs.map V.ref) (h3 : Paired (fun r c => H r = some (.lst (c.map V.int))) rs cs) : Dv K H (.ref a) cs := dv_ll ⟨by rw [h1, h2], h3⟩
end
end L2.Z
namespace L2.Z
open PySem PySem.Spec PyProof.Rows
open Evl (Ex)
section
variable {X : Cx} {sc : Scope} {N R S G B : List Str} {σ : St} {H : Hp} {Q : VK} {x : Str} {v : V} {pos p p2 : Pos} {e a b c : Expr} {es : List Expr} {i j : Int} {l m : Addr} {xs ys : List V}
/-! ### built-ins -/
def rLen' (K : PySem.W.Frag) : List V → Hp → VK → Prop := fun xs H Q => ∃ p ys, xs = [.ref p] ∧ (SqL K H p ys ∨ SqT K H p ys) ∧ Q (.int ys.length) H
def rAbs' : List V → Hp → VK → Prop := fun xs H Q => ∃ i, xs = [.int i] ∧ Q (.int (if i < 0 then -i else i)) H
def rMin2 : List V → Hp → VK → Prop := fun xs H Q => ∃ i j, xs = [.int i, .int j] ∧ Q (.int (if j < i then j else i)) H
def rList' (K : PySem.W.Frag) : List V → Hp → VK → Prop := fun xs H Q => ∃ p ys, xs = [.ref p] ∧ (SqL K H p ys ∨ SqT K H p ys) ∧ ∀ l, H l = none → Q (.ref l) (upd H l (.lst ys))
def rInt' : List V → Hp → VK → Prop := fun xs H Q => (∃ i, xs = [.int i] ∧ Q (.int i) H) ∨ ∃ k, xs = [.bl k] ∧ Q (.int (if k then 1 else 0)) H
section
theorem e_len [C : Ck X sc N R S G B] [m : Mm G "len"] [mb : Mm B "len"] (q : sA X (e :: es) σ H fun vs H1 => rLen' X.K vs H1 Q) (he : starEach (e :: es) X.env = (false, eval e X.env) :: starEach es X.env := by rfl) (hpl : (backTo pos (starEach es X.env)).any (·.1) = false := by rfl) :
    sE X (.Call (.Name "len" p) (e :: es) [] pos) σ H Q := e_callB (r := rLen' X.K) call_len_seq boot_len q he hpl
theorem e_isi [C : Ck X sc N R S G B] [m : Mm G "isinstance"] [mb : Mm B "isinstance"] (q : sA X (e :: es) σ H fun vs H1 => rIsi X.K vs H1 Q) (he : starEach (e :: es) X.env = (false, eval e X.env) :: starEach es X.env := by rfl) (hpl : (backTo pos (starEach es X.env)).any (·.1) = false := by rfl) :
    sE X (.Call (.Name "isinstance" p) (e :: es) [] pos) σ H Q := e_callB call_isi boot_isinstance q he hpl
theorem e_abs [C : Ck X sc N R S G B] [m : Mm G "abs"] [mb : Mm B "abs"] (q : sA X (e :: es) σ H fun vs H1 => rAbs' vs H1 Q) (he : starEach (e :: es) X.env = (false, eval e X.env) :: starEach es X.env := by rfl) (hpl : (backTo pos (starEach es X.env)).any (·.1) = false := by rfl) :
    sE X (.Call (.Name "abs" p) (e :: es) [] pos) σ H Q := e_callB (r := rAbs') call_abs boot_abs q he hpl
theorem e_sum [C : Ck X sc N R S G B] [m : Mm G "sum"] [mb : Mm B "sum"] (q : sA X (e :: es) σ H fun vs H1 => rSum X.K vs H1 Q) (he : starEach (e :: es) X.env = (false, eval e X.env) :: starEach es X.env := by rfl) (hpl : (backTo pos (starEach es X.env)).any (·.1) = false := by rfl) :
    sE X (.Call (.Name "sum" p) (e :: es) [] pos) σ H Q := e_callB (cr_sum C.calm) boot_sum q he hpl
theorem e_all [C : Ck X sc N R S G B] [m : Mm G "all"] [mb : Mm B "all"] (q : sA X (e :: es) σ H fun vs H1 => rAll X.K vs H1 Q) (he : starEach (e :: es) X.env = (false, eval e X.env) :: starEach es X.env := by rfl) (hpl : (backTo pos (starEach es X.env)).any (·.1) = false := by rfl) :
    sE X (.Call (.Name "all" p) (e :: es) [] pos) σ H Q := e_callB (cr_all C.calm) boot_all q he hpl
theorem e_any [C : Ck X sc N R S G B] [m : Mm G "any"] [mb : Mm B "any"] (q : sA X (e :: es) σ H fun vs H1 => rAny X.K vs H1 Q) (he : starEach (e :: es) X.env = (false, eval e X.env) :: starEach es X.env := by rfl) (hpl : (backTo pos (starEach es X.env)).any (·.1) = false := by rfl) :
    sE X (.Call (.Name "any" p) (e :: es) [] pos) σ H Q := e_callB (cr_any C.calm) boot_any q he hpl
theorem e_min [C : Ck X sc N R S G B] [m : Mm G "min"] [mb : Mm B "min"] (q : sA X (e :: es) σ H fun vs H1 => rMin2 vs H1 Q) (he : starEach (e :: es) X.env = (false, eval e X.env) :: starEach es X.env := by rfl) (hpl : (backTo pos (starEach es X.env)).any (·.1) = false := by rfl) :
    sE X (.Call (.Name "min" p) (e :: es) [] pos) σ H Q := e_callB (r := rMin2) (call_min2 C.calm) boot_min q he hpl
theorem e_sorted [C : Ck X sc N R S G B] [m : Mm G "sorted"] [mb : Mm B "sorted"] (q : sA X (e :: es) σ H fun vs H1 => rSorted X.K vs H1 Q) (he : starEach (e :: es) X.env = (false, eval e X.env) :: starEach es X.env := by rfl) (hpl : (backTo pos (starEach es X.env)).any (·.1) = false := by rfl) :
    sE X (.Call (.Name "sorted" p) (e :: es) [] pos) σ H Q := e_callB cr_sorted boot_sorted q he hpl
theorem e_list [C : Ck X sc N R S G B] [m : Mm G "list"] [mb : Mm B "list"] (q : sA X (e :: es) σ H fun vs H1 => rList' X.K vs H1 Q) (he : starEach (e :: es) X.env = (false, eval e X.env) :: starEach es X.env := by rfl) (hpl : (backTo pos (starEach es X.env)).any (·.1) = false := by rfl) :
    sE X (.Call (.Name "list" p) (e :: es) [] pos) σ H Q := e_callTy (r := rList' X.K) call_list_of boot_list q he hpl
theorem e_intc [C : Ck X sc N R S G B] [m : Mm G "int"] [mb : Mm B "int"] (q : sA X (e :: es) σ H fun vs H1 => rInt' vs H1 Q) (he : starEach (e :: es) X.env = (false, eval e X.env) :: starEach es X.env := by rfl) (hpl : (backTo pos (starEach es X.env)).any (·.1) = false := by rfl) :
    sE X (.Call (.Name "int" p) (e :: es) [] pos) σ H Q := e_callTy (r := rInt') call_int1 boot_int q he hpl
/-- list(range(n)) -/
theorem e_listR {pc : Pos} [C : Ck X sc N R S G B] [m : Mm G "list"] [mb : Mm B "list"] [m' : Mm G "range"] [mb' : Mm B "range"] (q : sE X a σ H fun v H1 => ∃ n : Int, v = .int n ∧ 0 ≤ n ∧ n ≤ 100000 ∧ ∀ p H', New H1 p (.lst (((List.range n.toNat).map fun k => ((k : Nat) : Int)).map V.int)) H' → Q (.ref p) H')
    (na : starEach [a] X.env = (false, eval a X.env) :: starEach [] X.env := by rfl) (nb : starEach [Expr.Call (.Name "range" p2) [a] [] pc] X.env = (false, eval (Expr.Call (.Name "range" p2) [a] [] pc) X.env) :: starEach [] X.env := by rfl) :
    sE X (.Call (.Name "list" p) [.Call (.Name "range" p2) [a] [] pc] [] pos) σ H Q := by
  refine oE (pe_listRg C.calm (C.glo _ m.mem).1 (C.blt _ mb.mem) (prg_1 (C.glo _ m'.mem).1 (C.blt _ mb'.mem) pE na) nb) ?_
  refine sE_mono (fun v H1 ⟨n, e, h1, h2, k⟩ => ⟨n, e, RgOk.of_le (by omega) (by omega) (by omega) h1, fun q hq => ?_⟩) q
  have e2 : rgV 0 n = ((List.range n.toNat).map fun k => ((k : Nat) : Int)).map V.int := by
    unfold rgV
    rw [List.map_map, Int.sub_zero]
    refine List.map_congr_left fun k _ => ?_
    show V.int (0 + (k : Int)) = V.int (k : Int)
    rw [Int.zero_add]
  rw [e2]
  exact k q _ (New.mk' hq)
theorem e_tint [C : Ck X sc N R S G B] [m : Mm G "int"] [mb : Mm B "int"] (q : Q (.ty "int") H) : sE X (.Name "int" pos) σ H Q := e_bltn (v := .ty "int") boot_int rfl q
theorem e_tbool [C : Ck X sc N R S G B] [m : Mm G "bool"] [mb : Mm B "bool"] (q : Q (.ty "bool") H) : sE X (.Name "bool" pos) σ H Q := e_bltn (v := .ty "bool") boot_bool rfl q
theorem e_tlist [C : Ck X sc N R S G B] [m : Mm G "list"] [mb : Mm B "list"] (q : Q (.ty "list") H) : sE X (.Name "list" pos) σ H Q := e_bltn (v := .ty "list") boot_list rfl q
end
theorem x_len {K : PySem.W.Frag} (h : H l = some (.lst xs)) (q : Q (.int xs.length) H) : rLen' K [.ref l] H Q := ⟨l, xs, rfl, .inl (SqL.of h), q⟩
theorem x_lenS {K : PySem.W.Frag} (h : SqL K H l xs) (q : Q (.int xs.length) H) : rLen' K [.ref l] H Q := ⟨l, xs, rfl, .inl h, q⟩
theorem x_abs (q : Q (.int i.natAbs) H) : rAbs' [.int i] H Q := ⟨i, rfl, by
  have e : (if i < 0 then -i else i) = (i.natAbs : Int) := by split <;> omega
  rw [e]; exact q⟩
theorem x_sum {K : PySem.W.Frag} {ns : List Int} (h : H l = some (.lst (ns.map V.int))) (q : Q (.int ns.sum) H) : rSum K [.ref l] H Q := ⟨l, ns, rfl, SqL.of h, q⟩
theorem x_all {K : PySem.W.Frag} {bs : List Bool} (h : H l = some (.lst (bs.map V.bl))) (q : Q (.bl (bs.all id)) H) : rAll K [.ref l] H Q := ⟨l, bs, rfl, SqL.of h, q⟩
theorem x_any {K : PySem.W.Frag} {bs : List Bool} (h : H l = some (.lst (bs.map V.bl))) (q : Q (.bl (bs.any id)) H) : rAny K [.ref l] H Q := ⟨l, bs, rfl, SqL.of h, q⟩
theorem x_min (q : Q (.int (min i j)) H) : rMin2 [.int i, .int j] H Q := ⟨i, j, rfl, by
  have e : (if j < i then j else i) = min i j := by split <;> omega
  rw [e]; exact q⟩
theorem x_list {K : PySem.W.Frag} (h : H l = some (.lst xs)) (q : ∀ p H', New H p (.lst xs) H' → Q (.ref p) H') : rList' K [.ref l] H Q := ⟨l, xs, rfl, .inl (SqL.of h), fun p hp => q p _ (New.mk' hp)⟩
theorem x_listT {K : PySem.W.Frag} (h : H l = some (.tup xs)) (q : ∀ p H', New H p (.lst xs) H' → Q (.ref p) H') : rList' K [.ref l] H Q := ⟨l, xs, rfl, .inr (SqT.of h), fun p hp => q p _ (New.mk' hp)⟩
theorem x_intB {k : Bool} (q : Q (.int (if k then 1 else 0)) H) : rInt' [.bl k] H Q := .inr ⟨k, rfl, q⟩
/-- isinstance of a value whose type is a built-in one, against a built-in one -/
theorem x_isi {K : PySem.W.Frag} {n t : String} {k : Bool} (ty : TyX K H v (.type n)) (h : kitB n t = some k) (q : Q (.bl k) H) : rIsi K [v, .ty t] H Q := ⟨v, .ty t, .type n, .type t, k, rfl, .ty _, ty, kit_ty h, q⟩
theorem x_sorted {K : PySem.W.Frag} {ns : List Int} (h : H l = some (.lst (ns.map V.int))) (hz : ns.length < 64) (q : ∀ (ms : List Int) p H', ms.Perm ns → ms.Pairwise (· ≤ ·) → New H p (.lst (ms.map V.int)) H' → Q (.ref p) H') : rSorted K [.ref l] H Q := by
  refine ⟨l, ns, rfl, SqL.of h, hz, ?_⟩
  intro ns' p hp hs hn
  first
    | exact q ns' p _ hp hs (New.mk' hn)
    | exact q ns' p _ hp.symm hs (New.mk' hn)
theorem ty_int {K : PySem.W.Frag} : TyX K H (.int i) (.type "int") := .base (.int i)
theorem ty_bl {K : PySem.W.Frag} {k : Bool} : TyX K H (.bl k) (.type "bool") := .base (.bl k)
theorem ty_non {K : PySem.W.Frag} : TyX K H .non (.type "NoneType") := .base .non
theorem ty_str {K : PySem.W.Frag} {s : Str} : TyX K H (.str s) (.type "str") := .base (.str s)
theorem ty_lst {K : PySem.W.Frag} (h : H l = some (.lst xs)) : TyX K H (.ref l) (.type "list") := .base (.lst h)
theorem ty_tup {K : PySem.W.Frag} (h : H l = some (.tup xs)) : TyX K H (.ref l) (.type "tuple") := .base (.tup h)
theorem ty_dK {K : PySem.W.Frag} {kvs : List (Key × V)} (h : H l = some (.dK kvs)) : TyX K H (.ref l) (.type "dict") := .base (.dK h)

/-! ### items, slices -/
def rIxLT (K : PySem.W.Frag) : R2 := fun x y H Q => rIxL K x y H Q ∨ rIxT K x y H Q
theorem e_sub' (q : sE X a σ H fun x H1 => sE X b σ H1 fun y H2 => rIxLT X.K x y H2 Q) (hs : PlainIx b := by exact fun _ _ => rfl) : sE X (.Subscript a b pos) σ H Q := e_ix (r := rIxLT X.K) (ix_list.or ix_tup) hs q
theorem x_ix {K : PySem.W.Frag} {n : Nat} (h : H l = some (.lst xs)) (hx : xs[n]? = some v) (hi : i = (n : Int)) (q : Q v H) : rIxLT K (.ref l) (.int i) H Q := .inl ⟨l, xs, i, v, rfl, rfl, SqL.of h, by rw [hi]; exact atI_nat hx, q⟩
theorem x_ixT {K : PySem.W.Frag} {n : Nat} (h : SqT K H l xs) (hx : xs[n]? = some v) (hi : i = (n : Int)) (q : Q v H) : rIxLT K (.ref l) (.int i) H Q := .inr ⟨l, xs, i, v, rfl, rfl, h, by rw [hi]; exact atI_nat hx, q⟩
theorem x_ixA {K : PySem.W.Frag} (h : H l = some (.lst xs)) (hx : atI xs i = some v) (q : Q v H) : rIxLT K (.ref l) (.int i) H Q := .inl ⟨l, xs, i, v, rfl, rfl, SqL.of h, hx, q⟩
/-- xs[:b], xs[a:], xs[a:b] of a list -/
theorem e_sl0 (q : sE X a σ H fun x H1 => sE X b σ H1 fun y H2 => ∃ (l : Addr) (xs : List V) (n : Nat), x = .ref l ∧ y = .int n ∧ SqL X.K H2 l xs ∧ ∀ p H', New H2 p (.lst (xs.take n)) H' → Q (.ref p) H') : sE X (.Subscript a (.Slice none (some b) none p2) pos) σ H Q := by
  refine oE (pe_slice sl_list pE po_none (po_some pE)) (sE_mono (fun x H1 z => sE_mono (fun y H2 h => ?_) z) q)
  obtain ⟨l, xs, n, e1, e2, s, k⟩ := h
  refine ⟨n, e2, l, xs, e1, s, fun p hp => ?_⟩
  have e : cutV xs none (some (n : Int)) = xs.take n := by
    unfold cutV
    rw [HT.sIx_none, HT.sIx_nat, List.drop_zero, Nat.sub_zero]
    by_cases h : n ≤ xs.length
    · rw [Nat.min_eq_left h]
    · rw [Nat.min_eq_right (by omega), List.take_length, List.take_of_length_le (by omega)]
  rw [e]
  exact k p _ (New.mk' hp)
theorem e_sl1 (q : sE X a σ H fun x H1 => sE X b σ H1 fun y H2 => ∃ (l : Addr) (xs : List V) (n : Nat), x = .ref l ∧ y = .int n ∧ SqL X.K H2 l xs ∧ ∀ p H', New H2 p (.lst (xs.drop n)) H' → Q (.ref p) H') : sE X (.Subscript a (.Slice (some b) none none p2) pos) σ H Q := by
  refine oE (pe_slice sl_list pE (po_some pE) po_none) (sE_mono (fun x H1 z => sE_mono (fun y H2 h => ?_) z) q)
  obtain ⟨l, xs, n, e1, e2, s, k⟩ := h
  refine ⟨n, e2, l, xs, e1, s, fun p hp => ?_⟩
  have e : cutV xs (some (n : Int)) none = xs.drop n := by
    unfold cutV
    rw [HT.sIx_none, HT.sIx_nat]
    by_cases h : n ≤ xs.length
    · rw [Nat.min_eq_left h, List.take_of_length_le]
      rw [List.length_drop]; omega
    · rw [Nat.min_eq_right (by omega), Nat.sub_self, List.take_zero, List.drop_of_length_le (by omega)]
  rw [e]
  exact k p _ (New.mk' hp)
theorem e_sl2 (q : sE X a σ H fun x H1 => sE X b σ H1 fun y H2 => ∃ n : Nat, y = .int n ∧ sE X c σ H2 fun z H3 => ∃ (l : Addr) (xs : List V) (m : Nat), x = .ref l ∧ z = .int m ∧ n ≤ m ∧ SqL X.K H3 l xs ∧ ∀ p H', New H3 p (.lst ((xs.drop n).take (m - n))) H' → Q (.ref p) H') : sE X (.Subscript a (.Slice (some b) (some c) none p2) pos) σ H Q := by
  refine oE (pe_slice sl_list pE (po_some pE) (po_some pE)) (sE_mono (fun x H1 z => sE_mono (fun y H2 ⟨n, ey, z2⟩ => ⟨n, ey, sE_mono (fun z H3 h => ?_) z2⟩) z) q)
  obtain ⟨l, xs, m, e1, e3, hnm, s, k⟩ := h
  refine ⟨m, e3, l, xs, e1, s, fun p hp => ?_⟩
  have e : cutV xs (some (n : Int)) (some (m : Int)) = (xs.drop n).take (m - n) := by
    unfold cutV
    rw [HT.sIx_nat, HT.sIx_nat]
    by_cases h : n ≤ xs.length
    · rw [Nat.min_eq_left h]
      by_cases h2 : m ≤ xs.length
      · rw [Nat.min_eq_left h2]
      · rw [Nat.min_eq_right (by omega), List.take_of_length_le (by rw [List.length_drop]; omega), List.take_of_length_le (by rw [List.length_drop]; omega)]
    · rw [Nat.min_eq_right (by omega), Nat.min_eq_right (by omega), Nat.sub_self, List.take_zero, List.drop_of_length_le (by omega), List.take_nil]
  rw [e]
  exact k p _ (New.mk' hp)
end
end L2.Z
namespace L2.Z
open PySem PySem.Spec PyProof.Rows
open Evl (Ex)
/-! ### loops -/
section
variable {X : Cx} {sc : Scope} {N R S G B : List Str} {σ : St} {H : Hp} {x x1 x2 x3 : Str} {pos p p2 px pr pc : Pos} {e a b c l : Expr} {es : List Expr} {D : Ends} {rest body : List Stmt}
theorem pgn [C : Ck X sc N R S G B] [m : Mm S x] {i : Nat} (hi : N[i]? = some x) : PG X (.Name x px) (gName i) := by
  obtain ⟨k1, k2⟩ := C.sto x m.mem
  exact pg_name C.nd (by rw [C.nm]; exact hi) k1 k2
theorem ix_of [m : Mm N x] : ∃ i : Nat, N[i]? = some x := List.getElem?_of_mem m.mem
theorem put_ix {σ2 : St} {v : V} {i : Nat} (pu : Put N σ x v σ2) (nd : N.Nodup) (hi : N[i]? = some x) : σ.set i (some v) = σ2 := by
  obtain ⟨j, h1, h2⟩ := pu.ix
  rw [nodup_ix nd hi h1, h2]
abbrev lpE (X : Cx) (D : Ends) (rest : List Stmt) (Pv : St → Hp → Prop) : Ends := { nx := Pv, rt := D.rt, bk := sB X rest D, ct := Pv }
/-- for x in a list that stays -/
theorem b_forL [C : Ck X sc N R S G B] [P : Po X] [m : Mm S x] [mn : Mm N x]
    (q : sE X l σ H fun v H1 => ∃ (a : Addr) (xs : List V), v = .ref a ∧ SqL X.K H1 a xs ∧ ∃ Pv : Nat → St → Hp → Prop, Pv 0 σ H1 ∧ (∀ i σ' H', i ≤ xs.length → Pv i σ' H' → SqL X.K H' a xs) ∧
      (∀ (i : Nat) v σ' H', xs[i]? = some v → Pv i σ' H' → ∃ σ2, Put N σ' x v σ2 ∧ sB X body (lpE X D rest (Pv (i + 1))) σ2 H') ∧ ∀ σ' H', Pv xs.length σ' H' → sB X rest D σ' H')
    (hs : ∀ x, foldedSetIterable l X.env x = pure x := by intro _; rfl) : sB X (.For (.Name x px) l body [] pos :: rest) D σ H := by
  obtain ⟨i0, hi⟩ := ix_of (N := N) (x := x)
  have nd := C.nd
  rw [C.nm] at nd
  refine oB (pss_cons (ps_for P.po C.calm (pi_list pE) (pgn hi) pB hs) pB) ?_
  refine sE_mono (fun v H1 h => ?_) q
  obtain ⟨a, xs, e, s, Pv, h0, hl, ht, hd⟩ := h
  refine ⟨a, e, ⟨xs, s⟩, for_list (D := { D with nx := sB X rest D }) Pv h0 hl (fun i v σ' H' hv p => ?_) hd⟩
  obtain ⟨σ2, pu, k⟩ := ht i v σ' H' hv p
  show sB X body _ (σ'.set i0 (some v)) H'
  rw [put_ix pu nd hi]
  exact k
/-- for x in range(n) -/
theorem b_forR [C : Ck X sc N R S G B] [P : Po X] [m : Mm S x] [mn : Mm N x] [mr : Mm G "range"] [mb : Mm B "range"]
    (q : sE X a σ H fun v H1 => ∃ n : Int, v = .int n ∧ -100000 ≤ n ∧ n ≤ 10000000 ∧ ∃ Pv : Nat → St → Hp → Prop, Pv 0 σ H1 ∧
      (∀ (i : Nat) σ' H', i < n.toNat → Pv i σ' H' → ∃ σ2, Put N σ' x (.int i) σ2 ∧ sB X body (lpE X D rest (Pv (i + 1))) σ2 H') ∧ ∀ σ' H', Pv n.toNat σ' H' → sB X rest D σ' H')
    (hst : starEach [a] X.env = [(false, eval a X.env)] := by rfl) (hs : ∀ x, foldedSetIterable (.Call (.Name "range" pr) [a] [] pc) X.env x = pure x := by intro _; rfl) : sB X (.For (.Name x px) (.Call (.Name "range" pr) [a] [] pc) body [] pos :: rest) D σ H := by
  obtain ⟨i0, hi⟩ := ix_of (N := N) (x := x)
  have nd := C.nd
  rw [C.nm] at nd
  refine oB (pss_cons (ps_for P.po C.calm (pi_range1 (C.glo _ mr.mem).1 (C.blt _ mb.mem) (pa_cons pE pa_nil hst) hst) (pgn hi) pB hs) pB) ?_
  refine sE_mono (fun v H1 h => ?_) q
  obtain ⟨n, e, h1, h2, Pv, h0, ht, hd⟩ := h
  refine ⟨n, by rw [e], by omega, by omega, for_range (D := { D with nx := sB X rest D }) Pv h0 (fun i σ' H' hv p => ?_) hd⟩
  obtain ⟨σ2, pu, k⟩ := ht i σ' H' hv p
  show sB X body _ (σ'.set i0 (some (.int (0 + (i : Int))))) H'
  rw [Int.zero_add, put_ix pu nd hi]
  exact k
/-- for x in range(a, b) -/
theorem b_forR2 [C : Ck X sc N R S G B] [P : Po X] [m : Mm S x] [mn : Mm N x] [mr : Mm G "range"] [mb : Mm B "range"]
    (q : sE X a σ H fun v H1 => sE X b σ H1 fun v2 H2 => ∃ lo n : Int, v = .int lo ∧ v2 = .int n ∧ (-100000 ≤ n ∧ n ≤ 100000 ∧ -100000 ≤ lo ∧ lo ≤ 100000) ∧ ∃ Pv : Nat → St → Hp → Prop, Pv 0 σ H2 ∧
      (∀ (i : Nat) σ' H', i < (n - lo).toNat → Pv i σ' H' → ∃ σ2, Put N σ' x (.int (lo + i)) σ2 ∧ sB X body (lpE X D rest (Pv (i + 1))) σ2 H') ∧ ∀ σ' H', Pv (n - lo).toNat σ' H' → sB X rest D σ' H')
    (hs2 : starEach [b] X.env = [(false, eval b X.env)] := by rfl) (hs1 : starEach [a, b] X.env = (false, eval a X.env) :: starEach [b] X.env := by rfl) (hs : ∀ x, foldedSetIterable (.Call (.Name "range" pr) [a, b] [] pc) X.env x = pure x := by intro _; rfl) :
    sB X (.For (.Name x px) (.Call (.Name "range" pr) [a, b] [] pc) body [] pos :: rest) D σ H := by
  obtain ⟨i0, hi⟩ := ix_of (N := N) (x := x)
  have nd := C.nd
  rw [C.nm] at nd
  refine oB (pss_cons (ps_for P.po C.calm (pi_range2 (C.glo _ mr.mem).1 (C.blt _ mb.mem) (pa_cons pE (pa_cons pE pa_nil hs2) hs1) (by rw [hs1, hs2]) hs2) (pgn hi) pB hs) pB) ?_
  refine sE_mono (fun v H1 z => sE_mono (fun v2 H2 h => ?_) z) q
  obtain ⟨lo, n, e, e2, hh, Pv, h0, ht, hd⟩ := h
  refine ⟨lo, n, by rw [e, e2], ⟨by omega, by omega, by omega, by omega⟩, for_range (D := { D with nx := sB X rest D }) Pv h0 (fun i σ' H' hv p => ?_) hd⟩
  obtain ⟨σ2, pu, k⟩ := ht i σ' H' hv p
  show sB X body _ (σ'.set i0 (some (.int (lo + (i : Int))))) H'
  rw [put_ix pu nd hi]
  exact k
/-- for x in range(0, n, step) -/
theorem b_forR3 [C : Ck X sc N R S G B] [P : Po X] [m : Mm S x] [mn : Mm N x] [mr : Mm G "range"] [mb : Mm B "range"]
    (q : sE X a σ H fun v H1 => sE X b σ H1 fun v2 H2 => sE X c σ H2 fun v3 H3 => ∃ (lo n st : Int) (k : Nat), v = .int lo ∧ v2 = .int n ∧ v3 = .int st ∧ RgC lo n st k ∧ ∃ Pv : Nat → St → Hp → Prop, Pv 0 σ H3 ∧
      (∀ (i : Nat) σ' H', i < k → Pv i σ' H' → ∃ σ2, Put N σ' x (.int (lo + (i : Nat) * st)) σ2 ∧ sB X body (lpE X D rest (Pv (i + 1))) σ2 H') ∧ ∀ σ' H', Pv k σ' H' → sB X rest D σ' H')
    (hs3 : starEach [c] X.env = (false, eval c X.env) :: starEach [] X.env := by rfl) (hs2 : starEach [b, c] X.env = (false, eval b X.env) :: starEach [c] X.env := by rfl) (hs1 : starEach [a, b, c] X.env = (false, eval a X.env) :: starEach [b, c] X.env := by rfl)
    (hpl : (backTo pc (starEach [b, c] X.env)).any (·.1) = false := by rfl) (hs : ∀ x, foldedSetIterable (.Call (.Name "range" pr) [a, b, c] [] pc) X.env x = pure x := by intro _; rfl) :
    sB X (.For (.Name x px) (.Call (.Name "range" pr) [a, b, c] [] pc) body [] pos :: rest) D σ H := by
  obtain ⟨i0, hi⟩ := ix_of (N := N) (x := x)
  have nd := C.nd
  rw [C.nm] at nd
  refine oB (pss_cons (ps_for P.po C.calm (pi_range3 (C.glo _ mr.mem).1 (C.blt _ mb.mem) (pa_cons pE (pa_cons pE (pa_cons pE pa_nil hs3) hs2) hs1) hs1 hpl) (pgn hi) pB hs) pB) ?_
  refine sE_mono (fun v H1 z => sE_mono (fun v2 H2 z2 => sE_mono (fun v3 H3 h => ?_) z2) z) q
  obtain ⟨lo, n, st, k, e, e2, e3, rg, Pv, h0, ht, hd⟩ := h
  refine ⟨lo, n, st, k, by rw [e, e2, e3], rg, for_rangeC (D := { D with nx := sB X rest D }) Pv h0 (fun i σ' H' hv p => ?_) hd⟩
  obtain ⟨σ2, pu, k⟩ := ht i σ' H' hv p
  show sB X body _ (σ'.set i0 (some (.int (lo + (i : Nat) * st)))) H'
  rw [put_ix pu nd hi]
  exact k
/-- while, by a word and a measure -/
theorem b_while [C : Ck X sc N R S G B] [P : Po X] (Pv : Nat → St → Hp → Prop) (m0 : Nat) (h0 : Pv m0 σ H)
    (q : ∀ m σ' H', Pv m σ' H' → sT X c σ' H' fun d H1 => if d = true then sB X body (lpE X D rest fun σ2 H2 => ∃ m', m' < m ∧ Pv m' σ2 H2) σ' H1 else sB X rest D σ' H1) : sB X (.While c body [] pos :: rest) D σ H := by
  refine oB (pss_cons (ps_while P.po pT pB) pB) ?_
  refine ⟨Pv, ⟨m0, h0⟩, fun m σ' H' h => sT_mono (fun d H1 k => ?_) (q m σ' H' h)⟩
  cases d with
  | true =>
    rw [if_pos rfl] at k ⊢
    exact ⟨_, fun σ2 H2 z => z, k⟩
  | false => exact k

/-! ### tuples at the left -/
/-- a, b = e, e a tuple of two -/
theorem b_tup2 [C : Ck X sc N R S G B] [m1 : Mm S x1] [m2 : Mm S x2] [n1 : Mm N x1] [n2 : Mm N x2] {k : Nat} {q1 q2 q3 : Pos}
    (q : sE X e σ H fun v H1 => ∃ (a : Addr) (u w : V), v = .ref a ∧ SqT X.K H1 a [u, w] ∧ ∃ σ1 σ2, Put N σ x1 u σ1 ∧ Put N σ1 x2 w σ2 ∧ sB X rest D σ2 H1)
    (hs : swapsWithSole [.Tuple [.Name x1 q1, .Name x2 q2] k q3] e pos.line X.env = pure false := by rfl) (hw : swappedStores [.Tuple [.Name x1 q1, .Name x2 q2] k q3] e X.env = pure none := by rfl) : sB X (.Assign [.Tuple [.Name x1 q1, .Name x2 q2] k q3] e pos :: rest) D σ H := by
  obtain ⟨i1, h1⟩ := ix_of (N := N) (x := x1)
  obtain ⟨i2, h2⟩ := ix_of (N := N) (x := x2)
  have nd := C.nd
  rw [C.nm] at nd
  refine oB (pss_cons (ps_asg pE (pg_tup C.calm (pgs_cons (pgn h1) (pgs_cons (pgn h2) pgs_nil))) hs hw) pB) (sE_mono (fun v H1 h => ?_) q)
  obtain ⟨a, u, w, e, s, σ1, σ2, p1, p2, k⟩ := h
  refine ⟨a, [u, w], e, s, rfl, u, [w], rfl, w, [], rfl, rfl, ?_⟩
  show sB X rest D ((σ.set i1 (some u)).set i2 (some w)) H1
  rw [put_ix p1 nd h1, put_ix p2 nd h2]
  exact k
/-- a, b = e1, e2 with plain locals -/
def parC (sc : Scope) (xs : List Str) : Bool := xs.all fun x => decide (sc.names.lookup x = some .local)
theorem parC_ok [C : Ck X sc N R S G B] {xs : List Str} (h : parC sc xs = true) : ∀ x ∈ xs, X.env.scope.names.lookup x = some .local := fun x hx => by
  rw [C.sc]
  exact of_decide_eq_true (List.all_eq_true.mp h x hx)
end
end L2.Z
namespace L2.Z
open PySem PySem.Spec PyProof.Rows
open Evl (Ex)
/-! ### what stands in the heap, by classes -/
class At (H : Hp) (a : Addr) (o : outParam HO) : Prop where
  h : H a = some o
class Up (H : outParam Hp) (H' : Hp) : Prop where
  ex : Ex H H'
section
variable {X X' : Cx} {K : PySem.W.Frag} {H H1 H' : Hp} {a p q : Addr} {o o' : HO} {xs ys : List V} {rs : List Addr} {cs : List (List Int)}
set_option synthInstance.checkSynthOrder false in
instance Up.new [n : New H p o H'] : Up H H' := ⟨n.ex⟩
instance (priority := low) At.up [u : Up H H'] [h : At H a o] : At H' a o := ⟨u.ex _ _ h.h⟩
set_option synthInstance.checkSynthOrder false in
instance (priority := high) At.new [n : New H p o H'] : At H' p o := ⟨n.at_⟩
instance (priority := high) At.updS : At (upd H p o) p o := ⟨upd_same⟩
class Ne (a b : Addr) : Prop where
  ne : a ≠ b
instance At.updN [n : Ne a p] [h : At H a o] : At (upd H p o') a o := ⟨by rw [upd_ne n.ne]; exact h.h⟩
/-- H knows nothing of p -/
class Fr (H : Hp) (p : Addr) : Prop where
  fr : H p = none
set_option synthInstance.checkSynthOrder false in
instance Fr.new [n : New H p o H'] : Fr H p := ⟨n.fr⟩
class Exs (H H' : Hp) : Prop where
  ex : Ex H H'
instance (priority := high) Exs.refl : Exs H H := ⟨Ex.refl H⟩
instance Exs.up [u : Up H1 H'] [e : Exs H H1] : Exs H H' := ⟨e.ex.trans u.ex⟩
instance Exs.mut [f : Fr H p] [e : Exs H H1] : Exs H (upd H1 p o) := ⟨Ex.mut e.ex f.fr⟩
theorem Fr.back [e : Exs H H'] (h : H' p = none) : H p = none := Evl.fresh_back e.ex h
/-- a list to be read -/
class Sq (K : PySem.W.Frag) (H : Hp) (a : Addr) (xs : outParam (List V)) : Prop where
  h : SqL K H a xs
instance (priority := high) Sq.at [h : At H a (.lst xs)] : Sq K H a xs := ⟨SqL.of h.h⟩
instance (priority := low) Sq.up [u : Up H H'] [h : Sq K H a xs] : Sq K H' a xs := ⟨Evl.ex_l u.ex h.h⟩
instance Sq.sub [s : Sub X X'] [h : Sq X.K H a xs] : Sq X'.K H a xs := ⟨by rw [s.K]; exact h.h⟩
class Ints (xs : List V) (ns : outParam (List Int)) : Prop where
  h : xs = ns.map V.int
instance Ints.map {ns : List Int} : Ints (ns.map V.int) ns := ⟨rfl⟩
instance Ints.nil : Ints [] [] := ⟨rfl⟩
instance Ints.cons {i : Int} {xs : List V} {ns : List Int} [h : Ints xs ns] : Ints (.int i :: xs) (i :: ns) := ⟨by rw [h.h]; rfl⟩
instance Ints.app {ns ms : List Int} [h : Ints xs ns] [g : Ints ys ms] : Ints (xs ++ ys) (ns ++ ms) := ⟨by rw [h.h, g.h, List.map_append]⟩
instance Ints.map2 {α : Type} {l : List α} {f : α → Int} : Ints (l.map fun x => V.int (f x)) (l.map f) := ⟨by rw [List.map_map]; rfl⟩
class Bools (xs : List V) (ns : outParam (List Bool)) : Prop where
  h : xs = ns.map V.bl
instance Bools.map {ns : List Bool} : Bools (ns.map V.bl) ns := ⟨rfl⟩
instance Bools.nil : Bools [] [] := ⟨rfl⟩
instance Bools.cons {i : Bool} {xs : List V} {ns : List Bool} [h : Bools xs ns] : Bools (.bl i :: xs) (i :: ns) := ⟨by rw [h.h]; rfl⟩
instance Bools.app {ns ms : List Bool} [h : Bools xs ns] [g : Bools ys ms] : Bools (xs ++ ys) (ns ++ ms) := ⟨by rw [h.h, g.h, List.map_append]⟩
instance Bools.map2 {α : Type} {l : List α} {f : α → Bool} : Bools (l.map fun x => V.bl (f x)) (l.map f) := ⟨by rw [List.map_map]; rfl⟩
instance (priority := low) LL.up' [u : Up H H'] [h : LL H a rs cs] : LL H' a rs cs := h.up u.ex
instance (priority := 50) At.ofLL [h : LL H a rs cs] : At H a (.lst (rs.map V.ref)) := ⟨h.top⟩
/-! ### what a name of the module holds; defs in a context within -/
class Gv (X : Cx) (x : Str) (v : outParam V) : Prop where
  ex : ∃ u, X.mg x = some u ∧ RelV v u
variable {x f : Str} {v : V} {sp : Sp}
instance Gv.nox [h : Gv X x v] : Gv X.nox x v := ⟨h.ex⟩
instance Gv.sub [s : Sub X X'] [h : Gv X x v] : Gv X' x v := ⟨by rw [s.mg]; exact h.ex⟩
instance Fk.sub [s : Sub X X'] [h : Fk X f sp] : Fk X' f sp := s.fk f sp h
instance Ru.subI [s : Sub X X'] [h : Ru X] : Ru X' := Ru.sub s
end
/-! ### kinds of values -/
inductive Kd where
  | int | bl | non | str | lst | tup | dct
def Kd.ty : Kd → String
  | .int => "int" | .bl => "bool" | .non => "NoneType" | .str => "str" | .lst => "list" | .tup => "tuple" | .dct => "dict"
class inductive KdV (H : Hp) : V → Kd → Prop where
  | int (i : Int) : KdV H (.int i) .int
  | bl (b : Bool) : KdV H (.bl b) .bl
  | non : KdV H .non .non
  | str (s : Str) : KdV H (.str s) .str
  | lst {a : Addr} {xs : List V} (h : H a = some (.lst xs)) : KdV H (.ref a) .lst
  | tup {a : Addr} {xs : List V} (h : H a = some (.tup xs)) : KdV H (.ref a) .tup
  | dct {a : Addr} {kvs : List (Key × V)} (h : H a = some (.dK kvs)) : KdV H (.ref a) .dct
class Kc (H : Hp) (v : V) (k : outParam Kd) : Prop where
  k : KdV H v k
section
variable {X : Cx} {K : PySem.W.Frag} {H H' : Hp} {a : Addr} {xs : List V} {v : V} {k : Kd} {Q : VK}
instance {i : Int} : Kc H (.int i) .int := ⟨.int i⟩
instance {i : Bool} : Kc H (.bl i) .bl := ⟨.bl i⟩
instance : Kc H .non .non := ⟨.non⟩
instance {i : Str} : Kc H (.str i) .str := ⟨.str i⟩
instance [h : At H a (.lst xs)] : Kc H (.ref a) .lst := ⟨.lst h.h⟩
instance [h : At H a (.tup xs)] : Kc H (.ref a) .tup := ⟨.tup h.h⟩
instance {kvs : List (Key × V)} [h : At H a (.dK kvs)] : Kc H (.ref a) .dct := ⟨.dct h.h⟩
theorem KdV.up (e : Ex H H') (h : KdV H v k) : KdV H' v k := by
  cases h with
  | int i => exact .int i
  | bl i => exact .bl i
  | non => exact .non
  | str i => exact .str i
  | lst h => exact .lst (e _ _ h)
  | tup h => exact .tup (e _ _ h)
  | dct h => exact .dct (e _ _ h)
instance (priority := low) Kc.up [u : Up H H'] [h : Kc H v k] : Kc H' v k := ⟨h.k.up u.ex⟩
theorem KdV.tyx (h : KdV H v k) : TyX K H v (.type k.ty) := by
  cases h with
  | int i => exact .base (.int i)
  | bl i => exact .base (.bl i)
  | non => exact .base .non
  | str i => exact .base (.str i)
  | lst h => exact .base (.lst h)
  | tup h => exact .base (.tup h)
  | dct h => exact .base (.dK h)
def isI : Kd → Bool
  | .int => true | .bl => true | _ => false
def isB : Kd → Bool
  | .bl => true | _ => false
def isL : Kd → Bool
  | .lst => true | _ => false
def isT : Kd → Bool
  | .tup => true | _ => false
def isS : Kd → Bool
  | .str => true | _ => false
class Kit (k : Kd) (t : String) (b : outParam Bool) : Prop where
  h : kitB k.ty t = some b
instance : Kit k "int" (isI k) := ⟨by cases k <;> decide +kernel⟩
instance : Kit k "bool" (isB k) := ⟨by cases k <;> decide +kernel⟩
instance : Kit k "list" (isL k) := ⟨by cases k <;> decide +kernel⟩
instance : Kit k "tuple" (isT k) := ⟨by cases k <;> decide +kernel⟩
instance : Kit k "str" (isS k) := ⟨by cases k <;> decide +kernel⟩
theorem x_isiK {t : String} {b : Bool} [c : Kc H v k] [i : Kit k t b] (q : Q (.bl b) H) : rIsi K [v, .ty t] H Q := ⟨v, .ty t, .type k.ty, .type t, b, rfl, .ty _, c.k.tyx, kit_ty i.h, q⟩
end
/-! ### the rules over classes -/
section
variable {X : Cx} {sc : Scope} {N R S G B : List Str} {σ σ' : St} {H : Hp} {Q : VK} {x : Str} {v : V} {pos p p2 : Pos} {e a b c : Expr} {es : List Expr} {i j : Int} {l m : Addr} {xs ys : List V} {K : PySem.W.Frag} {ns ms : List Int} {bs : List Bool} {D : Ends} {rest : List Stmt}
theorem e_gv [C : Ck X sc N R S G B] [m : Mm G x] [g : Gv X x v] (q : Q v H) : sE X (.Name x pos) σ H Q := by
  obtain ⟨u, h1, h2⟩ := g.ex
  exact e_glob h1 h2 q
theorem x_put [pu : Put N σ x v σ'] (q : sB X rest D σ' H) : ∃ σ', Put N σ x v σ' ∧ sB X rest D σ' H := ⟨_, pu, q⟩
theorem y_len [s : Sq K H l xs] (q : Q (.int xs.length) H) : rLen' K [.ref l] H Q := x_lenS s.h q
theorem y_cat [h1 : At H l (.lst xs)] [h2 : At H m (.lst ys)] (hz : xs.length + ys.length ≤ 100000) (q : ∀ p H', New H p (.lst (xs ++ ys)) H' → Q (.ref p) H') : rAdd' (.ref l) (.ref m) H Q := x_cat h1.h h2.h hz q
theorem y_sum [h : At H l (.lst xs)] [z : Ints xs ns] (q : Q (.int ns.sum) H) : rSum K [.ref l] H Q := x_sum (by rw [h.h, z.h]) q
theorem y_all [h : At H l (.lst xs)] [z : Bools xs bs] (q : Q (.bl (bs.all id)) H) : rAll K [.ref l] H Q := x_all (by rw [h.h, z.h]) q
theorem y_any [h : At H l (.lst xs)] [z : Bools xs bs] (q : Q (.bl (bs.any id)) H) : rAny K [.ref l] H Q := x_any (by rw [h.h, z.h]) q
theorem y_list [h : At H l (.lst xs)] (q : ∀ p H', New H p (.lst xs) H' → Q (.ref p) H') : rList' K [.ref l] H Q := x_list h.h q
theorem y_ix [h : At H l (.lst xs)] {n : Nat} (hx : xs[n]? = some v) (hi : i = (n : Int)) (q : Q v H) : rIxLT K (.ref l) (.int i) H Q := x_ix h.h hx hi q
theorem y_inI [h : At H l (.lst xs)] [z : Ints xs ns] (q : Q (.bl (decide (i ∈ ns))) H) : rIn' K (.int i) (.ref l) H Q := by
  refine .inl ⟨l, xs, rfl, .inl (SqL.of h.h), rfl, ?_, ?_⟩
  · rw [z.h, List.all_map]; exact List.all_eq_true.mpr fun _ _ => rfl
  · have e : inV (.int i) xs = decide (i ∈ ns) := by
      rw [z.h]; unfold inV
      rw [List.any_map, Bool.eq_iff_iff, List.any_eq_true, decide_eq_true_eq]
      constructor
      · rintro ⟨y, hy, h⟩
        have : y = i := by simpa [eqV] using h
        rw [← this]; exact hy
      · intro h
        exact ⟨i, h, by simp [eqV]⟩
    show Q (.bl (if false = true then _ else _)) H
    rw [if_neg Bool.false_ne_true, e]
    exact q
open PySem.W (Datum)
/-- data, by types -/
class Dt (K : PySem.W.Frag) (H : Hp) (v : V) (α : Type) [DecidableEq α] [Datum α] (d : outParam α) : Prop where
  h : Dv K H v d
instance : Dt K H (.int i) Int i := ⟨dv_int⟩
instance {b : Bool} : Dt K H (.bl b) Bool b := ⟨dv_bl⟩
instance [h : Sq K H l xs] [z : Ints xs ns] : Dt K H (.ref l) (List Int) ns := ⟨dv_li' (by rw [← z.h]; exact h.h)⟩
instance [h : At H l (.lst xs)] [z : Bools xs bs] : Dt K H (.ref l) (List Bool) bs := ⟨dv_lb (by rw [h.h, z.h])⟩
instance {rs : List Addr} {cs : List (List Int)} [h : LL H l rs cs] : Dt K H (.ref l) (List (List Int)) cs := ⟨dv_ll h⟩
instance [h : At H l (.lst [])] : Dt K H (.ref l) (List (List Int)) [] := ⟨dv_nil h.h⟩
theorem y_eqD (α : Type) [DecidableEq α] [Datum α] {d d' : α} {v' : V} [h1 : Dt K H v α d] [h2 : Dt K H v' α d'] (q : Q (.bl (decide (d = d'))) H) (h : Datum.depth α ≤ 60 := by decide) : rEq' K v v' H Q := x_eqD h1.h h2.h q h
theorem y_neD (α : Type) [DecidableEq α] [Datum α] {d d' : α} {v' : V} [h1 : Dt K H v α d] [h2 : Dt K H v' α d'] (q : Q (.bl (!decide (d = d'))) H) (h : Datum.depth α ≤ 60 := by decide) : rNe' K v v' H Q := x_neD h1.h h2.h q h
end
end L2.Z
namespace L2.Z
open PySem PySem.Spec PyProof.Rows
open Evl (Ex)
/-! ### comprehensions, once more: over as, any source; values or new lists come -/
theorem take_snoc {α : Type} {as : List α} {i : Nat} {a : α} (h : as[i]? = some a) : as.take (i + 1) = as.take i ++ [a] := by
  rw [List.take_add_one, h]; rfl
theorem filter_snoc {α β : Type} {l : List α} {a : α} {p : α → Bool} {f : α → β} : ((l ++ [a]).filter p).map f = (l.filter p).map f ++ (if p a = true then some (f a) else none).toList := by
  rw [List.filter_append, List.map_append]
  congr 1
  by_cases h : p a = true
  · rw [if_pos h, List.filter_cons, if_pos h]; rfl
  · rw [if_neg h, List.filter_cons, if_neg h]; rfl
theorem filt_len {α β : Type} {as : List α} {i : Nat} {p : α → Bool} {f : α → β} : (((as.take i).filter p).map f).length ≤ as.length := by
  rw [List.length_map]
  exact Nat.le_trans (List.length_filter_le _ _) (by rw [List.length_take]; omega)
/-- new lists stand at D: what came, and that it is new -/
class NewLs (H : Hp) (D : Addr) (rs : List Addr) (xss : List (List V)) (H' : Hp) : Prop where
  ex : Ex H H'
  top : H' D = some (.lst (rs.map V.ref))
  row : Paired (fun r xs => H' r = some (.lst xs)) rs xss
  fd : H D = none
  fr : ∀ r ∈ rs, H r = none
  nd : rs.Nodup
  ni : D ∉ rs
/-- one turn whose element is a new list -/
def TurnN (X : Cx) (sc : Scope) (N R S G B : List Str) (elt : Expr) (ifs : List Expr) (σ2 : St) (Hc : Hp) (p : Bool) (c : List V) : Prop :=
  ∀ X', Sub X X' → Ck X' sc N R S G B → sTs X' ifs σ2 Hc fun b H3 => Ex Hc H3 ∧ b = p ∧ (b = true → ∀ X', Sub X X' → Ck X' sc N R S G B → sE X' elt σ2 H3 fun y H4 => ∃ r, y = .ref r ∧ Hc r = none ∧ Ex Hc H4 ∧ H4 r = some (.lst c))
section
variable {X : Cx} {sc : Scope} {N R S G B : List Str} {σ : St} {H1 : Hp} {Q : VK} {elt : Expr} {ifs : List Expr} {J : It} {Gd : Hp → Prop} {Y : Nat → Hp → V → Hp → Prop} {vs : List Nat} {g : TG} {α : Type}
/-- a source: as its elements, st the names behind the target's store -/
structure SrcOk (σ : St) (H1 : Hp) (J : It) (Gd : Hp → Prop) (Y : Nat → Hp → V → Hp → Prop) (vs : List Nat) (g : TG) (as : List α) (st : α → St) : Prop where
  wk : Walk J as.length Gd Y
  gd : ∀ H, Ex H1 H → Gd H
  len : as.length ≤ 40000
  hy : ∀ (i : Nat) a Hc x H', as[i]? = some a → Ex H1 Hc → Y i Hc x H' → ∀ P : St → Hp → Prop, (∀ H2, Ex Hc H2 → P (st a) H2) → g x (wipe σ vs) H' P
  hw : ∀ a, wipe (st a) vs = wipe σ vs
  yx : ∀ i H x H', Y i H x H' → Ex H H'
theorem get_lt {as : List α} {i : Nat} (h : i < as.length) : ∃ a, as[i]? = some a ∧ a ∈ as := ⟨as[i], List.getElem?_eq_getElem h, List.getElem_mem h⟩
theorem askM {as : List α} {st : α → St} (s : SrcOk σ H1 J Gd Y vs g as st) (p : α → Bool) (f : α → V)
    (turn : ∀ a, a ∈ as → ∀ Hc, Ex H1 Hc → Turn1 X sc N R S G B elt ifs (st a) Hc (p a) (f a))
    (done : ∀ D H', New H1 D (.lst ((as.filter p).map f)) H' → Q (.ref D) H') :
    LcAsk X sc N R S G B vs g elt ifs σ J H1 Q as.length Gd Y (fun i acc Hh => acc = ((as.take i).filter p).map f ∧ Ex H1 Hh) where
  wk := s.wk
  r0 := ⟨by simp, Ex.refl _⟩
  gd := fun i acc Hh H h e => s.gd H (h.2.trans e)
  len := fun i acc Hh h hi => by rw [h.1]; exact Nat.le_trans filt_len (by have := s.len; omega)
  yx := fun i H x H' _ h => s.yx i H x H' h
  turn := fun i acc Hh H x H' hi r e y => by
    obtain ⟨ra, re⟩ := r
    obtain ⟨a, ha, hm⟩ := get_lt hi
    refine s.hy i a H x H' ha (re.trans e) y _ fun H2 e2 => ⟨s.hw a, e2, fun X' sb c => ?_⟩
    refine ⟨fun pins s' I => thn ((turn a hm H2 ((re.trans e).trans e2) X' sb c).run pins s' I) fun b s3 ⟨H3, I3, e3, hb, q3⟩ => ⟨H3, I3, ?_⟩⟩
    cases b with
    | true =>
      rw [if_pos rfl]
      refine fun X2 s2 c2 => sE_mono (fun y H4 ⟨e5, hy⟩ => ⟨e2.trans e5, fun G4 eg _ => ⟨?_, re.trans eg⟩⟩) (q3 rfl X2 s2 c2)
      rw [ra, take_snoc ha, filter_snoc, ← hb, if_pos rfl, hy]
    | false =>
      rw [if_neg Bool.false_ne_true]
      refine ⟨e2.trans e3, fun G4 eg _ => ⟨?_, re.trans eg⟩⟩
      rw [ra, take_snoc ha, filter_snoc, ← hb, if_neg Bool.false_ne_true]
  done := fun acc D H' nw ⟨Hh, ⟨h1, h2⟩, _⟩ => by
    subst h1
    rw [List.take_length] at nw
    exact done D H' nw
theorem pair_snoc {α β : Type} {F : α → β → Prop} {l : List α} {m : List β} {a : α} {b : β} (h : Paired F l m) (q : F a b) : Paired F (l ++ [a]) (m ++ [b]) := pair_append h (.cons q .nil)
theorem pair_some {rs : List Addr} {xss : List (List V)} {H : Hp} (h : Paired (fun r xs => H r = some (.lst xs)) rs xss) : ∀ r ∈ rs, ∃ o, H r = some o := fun r hr => by
  obtain ⟨y, _, q⟩ := pair_mem h hr
  exact ⟨_, q⟩
theorem askN {as : List α} {st : α → St} (s : SrcOk σ H1 J Gd Y vs g as st) (p : α → Bool) (f : α → List V)
    (turn : ∀ a, a ∈ as → ∀ Hc, Ex H1 Hc → TurnN X sc N R S G B elt ifs (st a) Hc (p a) (f a))
    (done : ∀ D rs H', NewLs H1 D rs ((as.filter p).map f) H' → Q (.ref D) H') :
    LcAsk X sc N R S G B vs g elt ifs σ J H1 Q as.length Gd Y (fun i acc Hh => ∃ rs, acc = rs.map V.ref ∧ Ex H1 Hh ∧ rs.Nodup ∧ (∀ r ∈ rs, H1 r = none) ∧ Paired (fun r xs => Hh r = some (.lst xs)) rs (((as.take i).filter p).map f)) where
  wk := s.wk
  r0 := ⟨[], rfl, Ex.refl _, List.nodup_nil, fun _ h => by simp at h, by simpa using Paired.nil⟩
  gd := fun i acc Hh H ⟨rs, _, h, _⟩ e => s.gd H (h.trans e)
  len := fun i acc Hh ⟨rs, h, _, _, _, h5⟩ hi => by
    rw [h, List.length_map, Paired.length h5]
    exact Nat.le_trans filt_len (by have := s.len; omega)
  yx := fun i H x H' _ h => s.yx i H x H' h
  turn := fun i acc Hh H x H' hi r e y => by
    obtain ⟨rs, ra, re, nd, nf, pr⟩ := r
    obtain ⟨a, ha, hm⟩ := get_lt hi
    refine s.hy i a H x H' ha (re.trans e) y _ fun H2 e2 => ⟨s.hw a, e2, fun X' sb c => ?_⟩
    refine ⟨fun pins s' I => thn ((turn a hm H2 ((re.trans e).trans e2) X' sb c).run pins s' I) fun b s3 ⟨H3, I3, e3, hb, q3⟩ => ⟨H3, I3, ?_⟩⟩
    cases b with
    | true =>
      rw [if_pos rfl]
      refine fun X2 s2 c2 => sE_mono (fun y H4 ⟨r, ey, hr, e5, h4⟩ => ⟨e2.trans e5, fun G4 eg en => ⟨rs ++ [r], ?_, re.trans eg, ?_, ?_, ?_⟩⟩) (q3 rfl X2 s2 c2)
      · rw [ra, ey, List.map_append]; rfl
      · refine List.nodup_append.mpr ⟨nd, by simp, fun u hu v hv z => ?_⟩
        obtain ⟨o, ho⟩ := pair_some pr u hu
        have hv' : v = r := by simpa using hv
        have := (e.trans e2) u o ho
        rw [z, hv', hr] at this
        cases this
      · intro u hu
        rcases List.mem_append.mp hu with hu | hu
        · exact nf u hu
        · have hv' : u = r := by simpa using hu
          rw [hv']
          exact Evl.fresh_back ((re.trans e).trans e2) hr
      · rw [take_snoc ha, filter_snoc, ← hb, if_pos rfl]
        exact pair_snoc (pair_mono (fun _ _ q => eg _ _ q) pr) (en r _ (Evl.fresh_back e2 hr) h4)
    | false =>
      rw [if_neg Bool.false_ne_true]
      refine ⟨e2.trans e3, fun G4 eg _ => ⟨rs, ?_, re.trans eg, nd, nf, ?_⟩⟩
      · simpa using ra
      · rw [take_snoc ha, filter_snoc, ← hb, if_neg Bool.false_ne_true]
        simpa using pair_mono (fun _ _ q => eg _ _ q) pr
  done := fun acc D H' nw ⟨Hh, ⟨rs, h1, h2, h3, h4, h5⟩, h6, h7, h8⟩ => by
    rw [List.take_length] at h5
    refine done D rs H' ⟨nw.ex, by rw [nw.at_, h1], pair_mono (fun _ _ q => h6 _ _ q) h5, nw.fr, h4, h3, fun hD => ?_⟩
    obtain ⟨o, ho⟩ := pair_some h5 D hD
    rw [h8] at ho
    cases ho
end
section
variable {X : Cx} {σ : St} {H1 : Hp} {α β : Type}
theorem wipe_set1 {i : Nat} {x : V} : wipe (σ.set i (some x)) [i] = wipe σ [i] := set_none_set
/-- the sources with a name as their target -/
theorem src_list {K : PySem.W.Frag} {a : Addr} {xs : List V} {i0 : Nat} (as : List α) (gx : α → V) (hx : xs = as.map gx) (h : SqL K H1 a xs) (hl : as.length ≤ 40000) :
    SrcOk σ H1 (Itl K a) (fun H => SqL K H a xs) (YAt xs) [i0] (gName i0) as (fun a => σ.set i0 (some (gx a))) := by
  have e : as.length = xs.length := by rw [hx, List.length_map]
  refine ⟨by rw [e]; exact walk_list, fun H ex => Evl.ex_l ex h, hl, fun i a Hc x H' ha ex y P k => ?_, fun a => wipe_set1, fun i H x H' y => by rw [y.1]; exact Ex.refl _⟩
  obtain ⟨rfl, y2⟩ := y
  have e2 : x = gx a := by
    rw [hx, List.getElem?_map, ha] at y2
    exact (Option.some.inj y2).symm
  show P ((wipe σ [i0]).set i0 (some x)) H'
  rw [show (wipe σ [i0]).set i0 (some x) = σ.set i0 (some x) from set_none_set, e2]
  exact k H' (Ex.refl _)
theorem src_range {lo : Int} {n : Nat} {i0 : Nat} (hl : n ≤ 40000) :
    SrcOk σ H1 (Itr lo n) (fun _ => True) (YFn fun i => .int (lo + i)) [i0] (gName i0) (List.range n) (fun k => σ.set i0 (some (.int (lo + (k : Nat))))) := by
  refine ⟨by rw [List.length_range]; exact walk_range, fun H ex => trivial, by rw [List.length_range]; exact hl, fun i a Hc x H' ha ex y P k => ?_, fun a => wipe_set1, fun i H x H' y => by rw [y.1]; exact Ex.refl _⟩
  obtain ⟨rfl, y2⟩ := y
  have hi : i = a := by
    obtain ⟨h1, h2⟩ := List.getElem?_eq_some_iff.mp ha
    rw [List.getElem_range] at h2
    exact h2
  show P ((wipe σ [i0]).set i0 (some x)) H'
  rw [show (wipe σ [i0]).set i0 (some x) = σ.set i0 (some x) from set_none_set, y2, hi]
  exact k H' (Ex.refl _)
/-- with two names as their target: zip, enumerate -/
def gTwo (K : PySem.W.Frag) (i j : Nat) : TG := gTup K 2 (gCons (gName i) (gCons (gName j) gNil))
theorem wipe_set2 {i j : Nat} {x y : V} : wipe ((σ.set i (some x)).set j (some y)) [i, j] = wipe σ [i, j] := by
  show (((σ.set i (some x)).set j (some y)).set j none).set i none = (σ.set j none).set i none
  by_cases h : i = j
  · subst h; simp
  · rw [List.set_set, List.set_comm _ _ h, List.set_set]
theorem set_wipe2 {i j : Nat} {x y : V} : ((wipe σ [i, j]).set i (some x)).set j (some y) = (σ.set i (some x)).set j (some y) := by
  show (((σ.set j none).set i none).set i (some x)).set j (some y) = _
  by_cases h : i = j
  · subst h; simp
  · rw [List.set_set, List.set_comm _ _ (Ne.symm h), List.set_set]
theorem gTwo_put {K : PySem.W.Frag} {i j : Nat} {T : Addr} {x y : V} {H : Hp} {P : St → Hp → Prop} (h : H T = some (.tup [x, y])) (k : P ((σ.set i (some x)).set j (some y)) H) : gTwo K i j (.ref T) (wipe σ [i, j]) H P := by
  refine ⟨T, [x, y], rfl, SqT.of h, rfl, x, [y], rfl, y, [], rfl, rfl, ?_⟩
  show P (((wipe σ [i, j]).set i (some x)).set j (some y)) H
  rw [set_wipe2]
  exact k
theorem src_zip {K : PySem.W.Frag} {a b : Addr} {xs ys : List V} {i0 j0 : Nat} (as : List α) (bs : List β) (gx : α → V) (gy : β → V) (hx : xs = as.map gx) (hy : ys = bs.map gy) (h : SqL K H1 a xs) (h' : SqL K H1 b ys) (hl : as.length ≤ 40000) :
    SrcOk σ H1 (Itz K a b) (fun H => SqL K H a xs ∧ SqL K H b ys) (YPair (fun i => xs[i]?) (fun i => ys[i]?)) [i0, j0] (gTwo K i0 j0) (as.zip bs) (fun c => (σ.set i0 (some (gx c.1))).set j0 (some (gy c.2))) := by
  refine ⟨walk_zip (by rw [List.length_zip, hx, hy, List.length_map, List.length_map]), fun H ex => ⟨Evl.ex_l ex h, Evl.ex_l ex h'⟩, by rw [List.length_zip]; omega, fun i c Hc x H' ha ex y P k => ?_, fun a => wipe_set2, fun i H x H' y => ?_⟩
  · obtain ⟨T, u, v, rfl, nT, rfl, y1, y2⟩ := y
    have hz := List.getElem?_zip_eq_some.mp ha
    have e1 : u = gx c.1 := by
      dsimp only at y1
      rw [hx, List.getElem?_map, hz.1] at y1
      exact (Option.some.inj y1).symm
    have e2 : v = gy c.2 := by
      dsimp only at y2
      rw [hy, List.getElem?_map, hz.2] at y2
      exact (Option.some.inj y2).symm
    subst e1 e2
    exact gTwo_put upd_same (k _ (Ex.new nT))
  · obtain ⟨T, u, v, rfl, nT, rfl, _⟩ := y
    exact Ex.new nT
theorem src_enum {K : PySem.W.Frag} {a : Addr} {xs : List V} {i0 j0 : Nat} (as : List α) (gx : α → V) (hx : xs = as.map gx) (h : SqL K H1 a xs) (hl : as.length ≤ 40000) :
    SrcOk σ H1 (Ite K a) (fun H => SqL K H a xs) (YPair (fun i => some (.int (i : Nat))) (fun i => xs[i]?)) [i0, j0] (gTwo K i0 j0) as.zipIdx (fun c => (σ.set i0 (some (.int (c.2 : Nat)))).set j0 (some (gx c.1))) := by
  have e : as.zipIdx.length = xs.length := by rw [List.length_zipIdx, hx, List.length_map]
  refine ⟨by rw [e]; exact walk_enum, fun H ex => Evl.ex_l ex h, by rw [List.length_zipIdx]; omega, fun i c Hc x H' ha ex y P k => ?_, fun a => wipe_set2, fun i H x H' y => ?_⟩
  · obtain ⟨T, u, v, rfl, nT, rfl, y1, y2⟩ := y
    rw [List.getElem?_zipIdx] at ha
    obtain ⟨d, hd1, hd2⟩ := Option.map_eq_some_iff.mp ha
    have e1 : u = .int (c.2 : Nat) := by
      rw [← hd2]
      show u = V.int ((0 + i : Nat) : Int)
      rw [Nat.zero_add]
      exact (Option.some.inj y1).symm
    have e2 : v = gx c.1 := by
      dsimp only at y2
      rw [hx, List.getElem?_map, hd1] at y2
      rw [← hd2]
      exact (Option.some.inj y2).symm
    subst e1 e2
    exact gTwo_put upd_same (k _ (Ex.new nT))
  · obtain ⟨T, u, v, rfl, nT, rfl, _⟩ := y
    exact Ex.new nT
end
end L2.Z
namespace L2.Z
open PySem PySem.Spec PyProof.Rows
open Evl (Ex)
/-! ### comprehensions as they are written -/
def lcQ (X : Cx) (sc : Scope) (N R S G B : List Str) (vs : List Nat) (g : TG) (elt : Expr) (ifs : List Expr) (σ : St) (J : It) (H1 : Hp) (Q : VK) : Prop := ∃ n Gd Y Rl, LcAsk X sc N R S G B vs g elt ifs σ J H1 Q n Gd Y Rl
section
variable {X : Cx} {sc scope : Scope} {N R S G B : List Str} {σ σ' σ2 : St} {H H1 Hc H3 H4 : Hp} {Q : VK} {x x0 x1 x2 y : Str} {v v' : V} {pos p p2 px py pr pc spos q1 q2 q3 : Pos} {e a b c elt iter tg l : Expr} {es ifs : List Expr} {D : Ends} {rest : List Stmt}
theorem gTwo_mono {K : PySem.W.Frag} {i j : Nat} : ∀ v σ H (Q Q' : St → Hp → Prop), (∀ σ' H', Q σ' H' → Q' σ' H') → gTwo K i j v σ H Q → gTwo K i j v σ H Q' := fun _ _ _ _ _ m h => by
  obtain ⟨a, xs, e, s, hl, u, r, e1, w, r2, e2, e3, k⟩ := h
  exact ⟨a, xs, e, s, hl, u, r, e1, w, r2, e2, e3, m _ _ k⟩
theorem e_lc1 [C : Ck X sc N R S G B] (i0 : Nat) (R' G' : List Str) (hb : blkAll N sc scope [(x0, i0)] R' G' = true)
    (q : sI X (.Name x0 px) iter σ H fun J H1 => lcQ X (relS scope sc) N R' [x0] G' B [i0] (gName i0) elt ifs σ J H1 Q) (hs : ∀ x, foldedSetIterable iter X.env x = pure x := by intro _; rfl) : sE X (.ListComp elt [⟨.Name x0 px, iter, ifs, 0⟩] scope pos) σ H Q :=
  e_lc [(x0, i0)] R' G' hb gName_mono (hg1 hb) q hs
theorem b_lc1 [C : Ck X sc N R S G B] (i0 : Nat) (R' G' : List Str) (hb : blkAll N sc scope [(x0, i0)] R' G' = true) (hy : lcTo sc scope y py.line pos.line = true) [m : Mm N y]
    (q : sI X (.Name x0 px) iter σ H fun J H1 => lcQ X (relS scope sc) N R' [x0] G' B [i0] (gName i0) elt ifs σ J H1 (fun v H1 => ∃ σ', Put N σ y v σ' ∧ sB X rest D σ' H1)) (hs : ∀ x, foldedSetIterable iter X.env x = pure x := by intro _; rfl) :
    sB X (.Assign [.Name y py] (.ListComp elt [⟨.Name x0 px, iter, ifs, 0⟩] scope pos) spos :: rest) D σ H := b_lc [(x0, i0)] R' G' hb gName_mono (hg1 hb) hy q hs
theorem hg2 [C : Ck X sc N R S G B] {i0 j0 : Nat} {R' G' : List Str} {k : Nat} (hb : blkAll N sc scope [(x1, i0), (x2, j0)] R' G' = true) : ∀ X', Ck X' (relS scope sc) N R' [x1, x2] G' B → X'.K = X.K → PG X' (.Tuple [.Name x1 q1, .Name x2 q2] k q3) (gTwo X.K i0 j0) := fun X' c e => by
  unfold blkAll at hb
  simp only [Bool.and_eq_true] at hb
  have b := blkOk_by hb.1.1.1
  have h1 : N[i0]? = some x1 := b.ix (x1, i0) (List.Mem.head _)
  have h2 : N[j0]? = some x2 := b.ix (x2, j0) (List.Mem.tail _ (List.Mem.head _))
  obtain ⟨k1, k2⟩ := c.sto x1 (List.Mem.head _)
  obtain ⟨k3, k4⟩ := c.sto x2 (List.Mem.tail _ (List.Mem.head _))
  have z := pg_tup (X := X') (pos := q3) (k := k) (n := 2) c.calm (pgs_cons (pg_name (pos := q1) c.nd (by rw [c.nm]; exact h1) k1 k2) (pgs_cons (pg_name (pos := q2) c.nd (by rw [c.nm]; exact h2) k3 k4) pgs_nil))
  rw [e] at z
  exact z
theorem e_lc2 [C : Ck X sc N R S G B] {k : Nat} (i0 j0 : Nat) (R' G' : List Str) (hb : blkAll N sc scope [(x1, i0), (x2, j0)] R' G' = true)
    (q : sI X (.Tuple [.Name x1 q1, .Name x2 q2] k q3) iter σ H fun J H1 => lcQ X (relS scope sc) N R' [x1, x2] G' B [i0, j0] (gTwo X.K i0 j0) elt ifs σ J H1 Q) (hs : ∀ x, foldedSetIterable iter X.env x = pure x := by intro _; rfl) :
    sE X (.ListComp elt [⟨.Tuple [.Name x1 q1, .Name x2 q2] k q3, iter, ifs, 0⟩] scope pos) σ H Q :=
  e_lc [(x1, i0), (x2, j0)] R' G' hb gTwo_mono (hg2 hb) q hs
theorem b_lc2 [C : Ck X sc N R S G B] {k : Nat} (i0 j0 : Nat) (R' G' : List Str) (hb : blkAll N sc scope [(x1, i0), (x2, j0)] R' G' = true) (hy : lcTo sc scope y py.line pos.line = true) [m : Mm N y]
    (q : sI X (.Tuple [.Name x1 q1, .Name x2 q2] k q3) iter σ H fun J H1 => lcQ X (relS scope sc) N R' [x1, x2] G' B [i0, j0] (gTwo X.K i0 j0) elt ifs σ J H1 (fun v H1 => ∃ σ', Put N σ y v σ' ∧ sB X rest D σ' H1)) (hs : ∀ x, foldedSetIterable iter X.env x = pure x := by intro _; rfl) :
    sB X (.Assign [.Name y py] (.ListComp elt [⟨.Tuple [.Name x1 q1, .Name x2 q2] k q3, iter, ifs, 0⟩] scope pos) spos :: rest) D σ H := b_lc [(x1, i0), (x2, j0)] R' G' hb gTwo_mono (hg2 hb) hy q hs
/-! sources -/
variable {Rr : It → Hp → Prop}
theorem y_src {P : Addr → Prop} {l : Addr} {xs : List V} [s : Sq X.K H l xs] (q : P l) : ∃ a xs, V.ref l = .ref a ∧ SqL X.K H a xs ∧ P a := ⟨l, xs, rfl, s.h, q⟩
theorem y_r1 {P : Int → Prop} {n : Int} (h : n ≤ 40000 ∧ -40000 ≤ n) (q : P n) : ∃ m : Int, V.int n = .int m ∧ m ≤ 40000 ∧ -40000 ≤ m ∧ P m := ⟨n, rfl, h.1, h.2, q⟩
theorem y_r2 {P : Int → Int → Prop} {i n : Int} (h : n ≤ 40000 ∧ -40000 ≤ n ∧ i ≤ 40000 ∧ -40000 ≤ i) (q : P i n) : ∃ i' n' : Int, V.int i = .int i' ∧ V.int n = .int n' ∧ (n' ≤ 40000 ∧ -40000 ≤ n' ∧ i' ≤ 40000 ∧ -40000 ≤ i') ∧ P i' n' := ⟨i, n, rfl, rfl, h, q⟩
theorem i_zip [C : Ck X sc N R S G B] [m : Mm G "zip"] [mb : Mm B "zip"] {k : Nat} (q : sE X a σ H fun v H1 => sE X b σ H1 fun v2 H2 => ∃ l m xs ys, v = .ref l ∧ v2 = .ref m ∧ SqL X.K H2 l xs ∧ SqL X.K H2 m ys ∧ Rr (Itz X.K l m) H2)
    (hs2 : starEach [b] X.env = (false, eval b X.env) :: starEach [] X.env := by rfl) (hs : starEach [a, b] X.env = (false, eval a X.env) :: starEach [b] X.env := by rfl) (hpl : (backTo pc (starEach [b] X.env)).any (·.1) = false := by rfl) : sI X (.Tuple es k q3) (.Call (.Name "zip" pr) [a, b] [] pc) σ H Rr := by
  refine oI (pi_zip (C.glo _ m.mem).1 (C.blt _ mb.mem) (pa_cons pE (pa_cons pE pa_nil hs2) hs) hs hpl) ?_
  exact sE_mono (fun v H1 z => sE_mono (fun v2 H2 ⟨l, m, xs, ys, e, e2, s1, s2, r⟩ => ⟨l, m, xs, ys, by rw [e, e2], s1, s2, r⟩) z) q
theorem y_zip {P : Addr → Addr → Prop} {l m : Addr} {xs ys : List V} [s : Sq X.K H l xs] [t : Sq X.K H m ys] (q : P l m) : ∃ l' m' xs ys, V.ref l = .ref l' ∧ V.ref m = .ref m' ∧ SqL X.K H l' xs ∧ SqL X.K H m' ys ∧ P l' m' := ⟨l, m, xs, ys, rfl, rfl, s.h, t.h, q⟩
theorem i_enum [C : Ck X sc N R S G B] [m : Mm G "enumerate"] [mb : Mm B "enumerate"] {k : Nat} (q : sE X a σ H fun v H1 => ∃ l xs, v = .ref l ∧ SqL X.K H1 l xs ∧ Rr (Ite X.K l) H1)
    (hs : starEach [a] X.env = [(false, eval a X.env)] := by rfl) : sI X (.Tuple es k q3) (.Call (.Name "enumerate" pr) [a] [] pc) σ H Rr := by
  refine oI (pi_enum (C.glo _ m.mem).1 (C.blt _ mb.mem) (pa_cons pE pa_nil hs) hs) ?_
  exact sE_mono (fun v H1 ⟨l, xs, e, s, r⟩ => ⟨l, xs, by rw [e], s, r⟩) q
theorem y_enum {P : Addr → Prop} {l : Addr} {xs : List V} [s : Sq X.K H l xs] (q : P l) : ∃ a xs, V.ref l = .ref a ∧ SqL X.K H a xs ∧ P a := ⟨l, xs, rfl, s.h, q⟩
/-! turns -/
variable {R' G' S' : List Str} {w : V} {pt : Bool} {cl : List V}
theorem tn0 (k : ∀ X', Sub X X' → Ck X' sc N R' S' G' B → sE X' elt σ2 Hc fun y H4 => Ex Hc H4 ∧ y = w) : Turn1 X sc N R' S' G' B elt [] σ2 Hc true w := fun X' s c => ts_nil ⟨Ex.refl _, rfl, fun _ X2 s2 c2 => k X2 s2 c2⟩
theorem tn1 (k : ∀ X', Sub X X' → Ck X' sc N R' S' G' B → sT X' c σ2 Hc fun b H3 => Ex Hc H3 ∧ b = pt ∧ (pt = true → ∀ X', Sub X X' → Ck X' sc N R' S' G' B → sE X' elt σ2 H3 fun y H4 => Ex Hc H4 ∧ y = w)) : Turn1 X sc N R' S' G' B elt [c] σ2 Hc pt w :=
  fun X' s c => ts_one (sT_mono (fun b H3 ⟨e, h, k⟩ => ⟨e, h, fun hb => k (by rw [← h]; exact hb)⟩) (k X' s c))
theorem tm0 (k : ∀ X', Sub X X' → Ck X' sc N R' S' G' B → sE X' elt σ2 Hc fun y H4 => ∃ r, y = .ref r ∧ Hc r = none ∧ Ex Hc H4 ∧ H4 r = some (.lst cl)) : TurnN X sc N R' S' G' B elt [] σ2 Hc true cl := fun X' s c => ts_nil ⟨Ex.refl _, rfl, fun _ X2 s2 c2 => k X2 s2 c2⟩
theorem x_end {y : V} [e : Exs Hc H4] (h : y = w) : Ex Hc H4 ∧ y = w := ⟨e.ex, h⟩
theorem x_tst {b : Bool} {P : Prop} [e : Exs Hc H3] (h : b = pt) (k : pt = true → P) : Ex Hc H3 ∧ b = pt ∧ (pt = true → P) := ⟨e.ex, h, k⟩
theorem x_endN {r : Addr} {o : List V} [e : Exs Hc H4] (f : Hc r = none) [h : At H4 r (.lst o)] (ho : o = cl) : ∃ r', V.ref r = .ref r' ∧ Hc r' = none ∧ Ex Hc H4 ∧ H4 r' = some (.lst cl) := ⟨r, rfl, f, e.ex, by rw [h.h, ho]⟩
/-! the comprehension itself -/
variable {α β : Type} {i0 j0 : Nat} {A : Addr} {xs ys : List V}
theorem lcL (as : List α) (gx : α → V) (pp : α → Bool) (f : α → V) [C : Ck X sc N R S G B] [s : Sq X.K H1 A xs] (hi : N[i0]? = some x0) (hx : xs = as.map gx) (hl : as.length ≤ 40000)
    (turn : ∀ a, a ∈ as → ∀ Hc, Up H1 Hc → ∃ σ2, Put N σ x0 (gx a) σ2 ∧ Turn1 X (relS scope sc) N R' [x0] G' B elt ifs σ2 Hc (pp a) (f a))
    (done : ∀ D H', New H1 D (.lst ((as.filter pp).map f)) H' → Q (.ref D) H') : lcQ X (relS scope sc) N R' [x0] G' B [i0] (gName i0) elt ifs σ (Itl X.K A) H1 Q := by
  have nd := C.nd
  rw [C.nm] at nd
  refine ⟨_, _, _, _, askM (src_list as gx hx s.h hl) pp f (fun a ha Hc e => ?_) done⟩
  obtain ⟨σ2, pu, k⟩ := turn a ha Hc ⟨e⟩
  rw [pu.eq nd hi] at k
  exact k
theorem lcLN (as : List α) (gx : α → V) (pp : α → Bool) (f : α → List V) [C : Ck X sc N R S G B] [s : Sq X.K H1 A xs] (hi : N[i0]? = some x0) (hx : xs = as.map gx) (hl : as.length ≤ 40000)
    (turn : ∀ a, a ∈ as → ∀ Hc, Up H1 Hc → ∃ σ2, Put N σ x0 (gx a) σ2 ∧ TurnN X (relS scope sc) N R' [x0] G' B elt ifs σ2 Hc (pp a) (f a))
    (done : ∀ D rs H', NewLs H1 D rs ((as.filter pp).map f) H' → Q (.ref D) H') : lcQ X (relS scope sc) N R' [x0] G' B [i0] (gName i0) elt ifs σ (Itl X.K A) H1 Q := by
  have nd := C.nd
  rw [C.nm] at nd
  refine ⟨_, _, _, _, askN (src_list as gx hx s.h hl) pp f (fun a ha Hc e => ?_) done⟩
  obtain ⟨σ2, pu, k⟩ := turn a ha Hc ⟨e⟩
  rw [pu.eq nd hi] at k
  exact k
theorem lcR {lo : Int} {n : Nat} (pp : Nat → Bool) (f : Nat → V) [C : Ck X sc N R S G B] (hi : N[i0]? = some x0) (hl : n ≤ 40000)
    (turn : ∀ k, k < n → ∀ Hc, Up H1 Hc → ∃ σ2, Put N σ x0 (.int (lo + (k : Nat))) σ2 ∧ Turn1 X (relS scope sc) N R' [x0] G' B elt ifs σ2 Hc (pp k) (f k))
    (done : ∀ D H', New H1 D (.lst (((List.range n).filter pp).map f)) H' → Q (.ref D) H') : lcQ X (relS scope sc) N R' [x0] G' B [i0] (gName i0) elt ifs σ (Itr lo n) H1 Q := by
  have nd := C.nd
  rw [C.nm] at nd
  refine ⟨_, _, _, _, askM (src_range hl) pp f (fun a ha Hc e => ?_) done⟩
  obtain ⟨σ2, pu, k⟩ := turn a (List.mem_range.mp ha) Hc ⟨e⟩
  rw [pu.eq nd hi] at k
  exact k
theorem lcRN {lo : Int} {n : Nat} (pp : Nat → Bool) (f : Nat → List V) [C : Ck X sc N R S G B] (hi : N[i0]? = some x0) (hl : n ≤ 40000)
    (turn : ∀ k, k < n → ∀ Hc, Up H1 Hc → ∃ σ2, Put N σ x0 (.int (lo + (k : Nat))) σ2 ∧ TurnN X (relS scope sc) N R' [x0] G' B elt ifs σ2 Hc (pp k) (f k))
    (done : ∀ D rs H', NewLs H1 D rs (((List.range n).filter pp).map f) H' → Q (.ref D) H') : lcQ X (relS scope sc) N R' [x0] G' B [i0] (gName i0) elt ifs σ (Itr lo n) H1 Q := by
  have nd := C.nd
  rw [C.nm] at nd
  refine ⟨_, _, _, _, askN (src_range hl) pp f (fun a ha Hc e => ?_) done⟩
  obtain ⟨σ2, pu, k⟩ := turn a (List.mem_range.mp ha) Hc ⟨e⟩
  rw [pu.eq nd hi] at k
  exact k
theorem lcZ {B' : Addr} (as : List α) (bs : List β) (gx : α → V) (gy : β → V) (pp : α × β → Bool) (f : α × β → V) [C : Ck X sc N R S G B] [s : Sq X.K H1 A xs] [t : Sq X.K H1 B' ys] (hi : N[i0]? = some x1) (hj : N[j0]? = some x2) (hx : xs = as.map gx) (hy : ys = bs.map gy) (hl : as.length ≤ 40000)
    (turn : ∀ a, a ∈ as.zip bs → ∀ Hc, Up H1 Hc → ∃ σ1 σ2, Put N σ x1 (gx a.1) σ1 ∧ Put N σ1 x2 (gy a.2) σ2 ∧ Turn1 X (relS scope sc) N R' [x1, x2] G' B elt ifs σ2 Hc (pp a) (f a))
    (done : ∀ D H', New H1 D (.lst (((as.zip bs).filter pp).map f)) H' → Q (.ref D) H') : lcQ X (relS scope sc) N R' [x1, x2] G' B [i0, j0] (gTwo X.K i0 j0) elt ifs σ (Itz X.K A B') H1 Q := by
  have nd := C.nd
  rw [C.nm] at nd
  refine ⟨_, _, _, _, askM (src_zip as bs gx gy hx hy s.h t.h hl) pp f (fun a ha Hc e => ?_) done⟩
  obtain ⟨σ1, σ2, pu, pu2, k⟩ := turn a ha Hc ⟨e⟩
  rw [pu2.eq nd hj, pu.eq nd hi] at k
  exact k
theorem lcE (as : List α) (gx : α → V) (pp : α × Nat → Bool) (f : α × Nat → V) [C : Ck X sc N R S G B] [s : Sq X.K H1 A xs] (hi : N[i0]? = some x1) (hj : N[j0]? = some x2) (hx : xs = as.map gx) (hl : as.length ≤ 40000)
    (turn : ∀ a, a ∈ as.zipIdx → ∀ Hc, Up H1 Hc → ∃ σ1 σ2, Put N σ x1 (.int (a.2 : Nat)) σ1 ∧ Put N σ1 x2 (gx a.1) σ2 ∧ Turn1 X (relS scope sc) N R' [x1, x2] G' B elt ifs σ2 Hc (pp a) (f a))
    (done : ∀ D H', New H1 D (.lst ((as.zipIdx.filter pp).map f)) H' → Q (.ref D) H') : lcQ X (relS scope sc) N R' [x1, x2] G' B [i0, j0] (gTwo X.K i0 j0) elt ifs σ (Ite X.K A) H1 Q := by
  have nd := C.nd
  rw [C.nm] at nd
  refine ⟨_, _, _, _, askM (src_enum as gx hx s.h hl) pp f (fun a ha Hc e => ?_) done⟩
  obtain ⟨σ1, σ2, pu, pu2, k⟩ := turn a ha Hc ⟨e⟩
  rw [pu2.eq nd hj, pu.eq nd hi] at k
  exact k
theorem x_tp {v : V} {T : St → Prop} [pu : Put N σ x v σ2] (k : T σ2) : ∃ σ2, Put N σ x v σ2 ∧ T σ2 := ⟨_, pu, k⟩
theorem x_tp2 {v v' : V} {T : St → Prop} [pu : Put N σ x v σ'] [pu2 : Put N σ' x1 v' σ2] (k : T σ2) : ∃ σ1 σ2, Put N σ x v σ1 ∧ Put N σ1 x1 v' σ2 ∧ T σ2 := ⟨_, _, pu, pu2, k⟩
theorem filter_true {α : Type} {l : List α} : l.filter (fun _ => true) = l := List.filter_eq_self.mpr fun _ _ => rfl
/-! ### parallel stores -/
theorem sw_env {ts : List Expr} {e : Expr} {env env' : Env} (h : env.scope = env'.scope) : swappedStores ts e env = swappedStores ts e env' := by
  unfold swappedStores Env.blockKind Env.kindOf
  rw [h]
abbrev envOf (sc : Scope) : Env := ⟨sc, 0, 0, [], Str.empty, none, .none, none, 0⟩
theorem ix_ne {i j : Nat} (hi : N[i]? = some x1) (hj : N[j]? = some x2) (h : x1 ≠ x2) : i ≠ j := fun z => by
  rw [z, hj] at hi
  exact h (Option.some.inj hi).symm
theorem b_par2 [C : Ck X sc N R S G B] [n1 : Mm N x1] [n2 : Mm N x2] {k k2 : Nat} {pt2 : Pos} (hl : parC sc [x1, x2] = true) (hne : x1 ≠ x2)
    (hw : swappedStores [.Tuple [.Name x1 q1, .Name x2 q2] k q3] (.Tuple [a, b] k2 pt2) (envOf sc) = pure (some [x1, x2]))
    (q : sE X a σ H fun u H1 => sE X b σ H1 fun w H2 => ∃ σ1 σ2, Put N σ x1 u σ1 ∧ Put N σ1 x2 w σ2 ∧ sB X rest D σ2 H2)
    (hs2 : starEach [b] X.env = (false, eval b X.env) :: starEach [] X.env := by rfl) (hs1 : starEach [a, b] X.env = (false, eval a X.env) :: starEach [b] X.env := by rfl)
    (hs : swapsWithSole [.Tuple [.Name x1 q1, .Name x2 q2] k q3] (.Tuple [a, b] k2 pt2) pos.line X.env = pure false := by rfl) :
    sB X (.Assign [.Tuple [.Name x1 q1, .Name x2 q2] k q3] (.Tuple [a, b] k2 pt2) pos :: rest) D σ H := by
  obtain ⟨i1, h1⟩ := ix_of (N := N) (x := x1)
  obtain ⟨i2, h2⟩ := ix_of (N := N) (x := x2)
  have nd := C.nd
  rw [C.nm] at nd
  have lo := parC_ok (X := X) hl
  refine oB (pss_cons (ps_par (i := i1) (j := i2) C.calm C.nd (by rw [C.nm]; exact h1) (by rw [C.nm]; exact h2) (ix_ne h1 h2 hne) (lo _ (by simp)) (lo _ (by simp)) (pa_cons pE (pa_cons pE pa_nil hs2) hs1) ((sw_env C.sc).trans hw) hs) pB) ?_
  refine sE_mono (fun u H1 z => sE_mono (fun w H2 h => ?_) z) q
  obtain ⟨σ1, σ2, p1, p2, k⟩ := h
  refine ⟨u, w, rfl, ?_⟩
  show sB X rest D ((σ.set i1 (some u)).set i2 (some w)) H2
  rw [put_ix p1 nd h1, put_ix p2 nd h2]
  exact k
theorem b_par3 [C : Ck X sc N R S G B] {x3 : Str} [n1 : Mm N x1] [n2 : Mm N x2] [n3 : Mm N x3] {k k2 : Nat} {pt2 q4 : Pos} (hl : parC sc [x1, x2, x3] = true) (hne : x1 ≠ x2) (hne2 : x1 ≠ x3) (hne3 : x2 ≠ x3)
    (hw : swappedStores [.Tuple [.Name x1 q1, .Name x2 q2, .Name x3 q4] k q3] (.Tuple [a, b, c] k2 pt2) (envOf sc) = pure (some [x1, x2, x3]))
    (q : sE X a σ H fun u H1 => sE X b σ H1 fun w H2 => sE X c σ H2 fun z H3 => ∃ σ1 σ2 σ3, Put N σ x1 u σ1 ∧ Put N σ1 x2 w σ2 ∧ Put N σ2 x3 z σ3 ∧ sB X rest D σ3 H3)
    (hs3 : starEach [c] X.env = (false, eval c X.env) :: starEach [] X.env := by rfl) (hs2 : starEach [b, c] X.env = (false, eval b X.env) :: starEach [c] X.env := by rfl) (hs1 : starEach [a, b, c] X.env = (false, eval a X.env) :: starEach [b, c] X.env := by rfl)
    (hs : swapsWithSole [.Tuple [.Name x1 q1, .Name x2 q2, .Name x3 q4] k q3] (.Tuple [a, b, c] k2 pt2) pos.line X.env = pure false := by rfl) :
    sB X (.Assign [.Tuple [.Name x1 q1, .Name x2 q2, .Name x3 q4] k q3] (.Tuple [a, b, c] k2 pt2) pos :: rest) D σ H := by
  obtain ⟨i1, h1⟩ := ix_of (N := N) (x := x1)
  obtain ⟨i2, h2⟩ := ix_of (N := N) (x := x2)
  obtain ⟨i3, h3⟩ := ix_of (N := N) (x := x3)
  have nd := C.nd
  rw [C.nm] at nd
  have lo := parC_ok (X := X) hl
  refine oB (pss_cons (ps_par3 (i := i1) (j := i2) (l := i3) C.calm C.nd (by rw [C.nm]; exact h1) (by rw [C.nm]; exact h2) (by rw [C.nm]; exact h3) (ix_ne h1 h2 hne) (ix_ne h1 h3 hne2) (ix_ne h2 h3 hne3) (lo _ (by simp)) (lo _ (by simp)) (lo _ (by simp)) (pa_cons pE (pa_cons pE (pa_cons pE pa_nil hs3) hs2) hs1) ((sw_env C.sc).trans hw) hs) pB) ?_
  refine sE_mono (fun u H1 z => sE_mono (fun w H2 z2 => sE_mono (fun t H3 h => ?_) z2) z) q
  obtain ⟨σ1, σ2, σ3, p1, p2, p3, k⟩ := h
  refine ⟨u, w, t, rfl, ?_⟩
  show sB X rest D (((σ.set i1 (some u)).set i2 (some w)).set i3 (some t)) H3
  rw [put_ix p1 nd h1, put_ix p2 nd h2, put_ix p3 nd h3]
  exact k
theorem x_p2 {v v' : V} [pu : Put N σ x v σ'] [pu2 : Put N σ' x1 v' σ2] (q : sB X rest D σ2 H) : ∃ σ1 σ2, Put N σ x v σ1 ∧ Put N σ1 x1 v' σ2 ∧ sB X rest D σ2 H := ⟨_, _, pu, pu2, q⟩
theorem x_p3 {v v' v2 : V} {σ3 : St} [pu : Put N σ x v σ'] [pu2 : Put N σ' x1 v' σ2] [pu3 : Put N σ2 x2 v2 σ3] (q : sB X rest D σ3 H) : ∃ σ1 σ2 σ3, Put N σ x v σ1 ∧ Put N σ1 x1 v' σ2 ∧ Put N σ2 x2 v2 σ3 ∧ sB X rest D σ3 H := ⟨_, _, _, pu, pu2, pu3, q⟩
/-- a, b = a tuple of two -/
theorem x_t2 {T : Addr} {u w : V} [h : At H T (.tup [u, w])] [pu : Put N σ x1 u σ'] [pu2 : Put N σ' x2 w σ2] (q : sB X rest D σ2 H) : ∃ (a : Addr) (u' w' : V), V.ref T = .ref a ∧ SqT X.K H a [u', w'] ∧ ∃ σ1 σ2, Put N σ x1 u' σ1 ∧ Put N σ1 x2 w' σ2 ∧ sB X rest D σ2 H := ⟨T, u, w, rfl, SqT.of h.h, _, _, pu, pu2, q⟩
/-! ### list methods, items stored -/
theorem e_append (q : sE X a σ H fun v H1 => ∃ l, v = .ref l ∧ (∃ xs, SqL X.K H1 l xs) ∧ sE X e σ H1 fun y H2 => ∃ xs, H2 l = some (.lst xs) ∧ xs.length < 100000 ∧ Q .non (upd H2 l (.lst (xs ++ [y]))))
    (hbase : attributeBase a "append" X.env (eval a X.env) = eval a X.env := by rfl) (hfew : ((backTo pc (starEach [e] X.env)).all (fun x => !x.1) && (backToKw pc (keywordEach [] X.env)).all (fun x => x.1.isSome) && decide (([e]).length + ([] : List Keyword).length + (if ([] : List Keyword).isEmpty then 0 else 1) < 30)) = true := by rfl)
    (hline : (p.endLine == pc.line) = true := by rfl) (hs : starEach [e] X.env = (false, eval e X.env) :: starEach [] X.env := by rfl) : sE X (.Call (.Attribute a "append" p) [e] [] pc) σ H Q := by
  refine oE (pe_bm PySem.F.plainAttrs_list PySem.F.slot_list_append PySem.F.type_list_append mt_append pE (pa_cons pE pa_nil hs) hbase hfew hline hs) ?_
  refine sE_mono (fun v H1 ⟨l, e1, ⟨xs, s⟩, k⟩ => ⟨?_, sE_mono (fun y H2 ⟨ys, h1, h2, k2⟩ => ?_) k⟩) q
  · rw [e1]; exact .inl ⟨rfl, xs, s⟩
  · rw [e1]; exact ⟨l, ys, y, rfl, rfl, h1, Evl.sz_lt h2, k2⟩
theorem x_app1 {l : Addr} {xs : List V} {P : Addr → Prop} [s : At H l (.lst xs)] (k : P l) : ∃ m, V.ref l = .ref m ∧ (∃ xs, SqL X.K H m xs) ∧ P m := ⟨l, rfl, ⟨xs, SqL.of s.h⟩, k⟩
end
end L2.Z
namespace L2.Z
open PySem PySem.Spec PyProof.Rows
open Evl (Ex)
/-! ### a def of the module, by its body -/
structure Df (K : PySem.W.Frag) (mg : Str → Option Value) (x : Str) (st : Stmt) (ps : List Str) : Prop where
  ex : ∃ f fd, FunD K x x (defArgs st) (defBody st) (defScope st) [] [] f fd ∧ mg x = some (.ref f) ∧ Binds K fd ps []
def Gm (mg : Str → Option Value) (x : Str) (v : V) : Prop := ∃ u, mg x = some u ∧ RelV v u
/-- what a body is handed -/
structure Bd (P : Program) (w : World) (K : PySem.W.Frag) (mg : Str → Option Value) (base : Heap) (k : Nat) (X : Cx) : Prop where
  fk : ∀ {y : Str} {ps : List Str} {sp : Sp} {j : Nat}, Kn P w K mg base j y ps sp → j ≤ k → Fk X y sp
  gv : ∀ {y : Str} {v : V}, Gm mg y v → Gv X y v
  K : X.K = K
  mg : X.mg = mg
  ru : Ru X
  po : Po X
  rm : Room k X.A
  pr : X.prog = P
  w : X.w = w
  base : X.base = base
  stk : X.stack = X.env :: X.outer
  frm : X.env.frame = some X.env.locals
section
variable {P : Program} {w : World} {K : PySem.W.Frag} {mg : Str → Option Value} {base : Heap}
theorem okD {x : Str} {st : Stmt} {N ps R G B : List Str} {k : Nat} {sp : Sp} {f : Addr} {fd : FuncData} (F : FunD K x x (defArgs st) (defBody st) (defScope st) [] [] f fd) (d : DefOk (defScope st) N ps R G) (hB : ∀ y ∈ B, mg y = none) (len : ∀ vs H Q E, sp vs H Q E → vs.length = ps.length)
    (body : ∀ X : Cx, Bd P w K mg base k X → Ck X (defScope st) N R R G B → ∀ vs H Q E, L2N.Takes X (fun cls d _ H => E cls d H) → sp vs H Q E →
      sB X (defBody st) { nx := fun _ H' => Q .non H', rt := Q } (start N vs) H) : FnOk P w K mg base (L2N.CX P w) (k + 1) f fd ps sp := by
  refine F.ok d.fs len fun cdv A outer s H vs Q E hr hsp => ⟨_, pB, ?_⟩
  have bd : Bd P w K mg base k (cxOf (L2N.CX P w) P w K mg base N x (defScope st) f cdv A outer s H E) :=
    ⟨fun {y ps sp j} h hj => ⟨j, ps, h, hr.mono hj⟩, fun {y v} h => ⟨h⟩, rfl, rfl, Ru.of hr, ⟨passes_of rfl⟩, hr, rfl, rfl, rfl, rfl, rfl⟩
  refine body _ bd (Ck.ofDef d rfl rfl rfl rfl hB) vs H Q E (L2N.takes_of rfl rfl rfl rfl) hsp
theorem okd {x : Str} {st : Stmt} {N ps R G B : List Str} {k : Nat} {sp : Sp} (F : Df K mg x st ps) (d : DefOk (defScope st) N ps R G) (hB : ∀ y ∈ B, mg y = none) (len : ∀ vs H Q E, sp vs H Q E → vs.length = ps.length)
    (body : ∀ X : Cx, Bd P w K mg base k X → Ck X (defScope st) N R R G B → ∀ vs H Q E, L2N.Takes X (fun cls d _ H => E cls d H) → sp vs H Q E →
      sB X (defBody st) { nx := fun _ H' => Q .non H', rt := Q } (start N vs) H) : Kn P w K mg base (k + 1) x ps sp := by
  obtain ⟨f, fd, F, hm, hb⟩ := F.ex
  exact ⟨f, fd, okD F d hB len body, hm, F.kp, hb⟩
theorem cx_false {P : Program} {w : World} {H : Hp} {s : Shared} {e : Value} {s' : Shared} (h : L2N.CX P w [] H s (fun _ _ _ => False) e s') : False := by
  obtain ⟨_, _, _, _, _, _, _, _, _, _, _, _, z⟩ := h
  exact z
end
/-! ### guards of the step -/
section
variable {X : Cx} {σ : St} {H : Hp} {Q : VK} {QT : Bool → Hp → Prop} {QA : List V → Hp → Prop} {D : Ends} {e f : Expr} {es : List Expr} {b : List Stmt} {x : Str} {p p2 : Pos} {k : Nat} {c : Const} {kw : List Keyword} {ops : List CmpOp} {o : Operator} {l r : Expr}
theorem gE (q : sE X e σ H Q) : sE X e σ H Q := q
theorem gT (q : sT X e σ H QT) : sT X e σ H QT := q
theorem gW (q : sW X e σ H QT) : sW X e σ H QT := q
theorem gA (q : sA X es σ H QA) : sA X es σ H QA := q
theorem gB (q : sB X b D σ H) : sB X b D σ H := q
theorem gN (q : sE X (.Name x p) σ H Q) : sE X (.Name x p) σ H Q := q
theorem gK (q : sE X (.Constant c k p) σ H Q) : sE X (.Constant c k p) σ H Q := q
theorem gC (q : sE X (.Call (.Name x p2) es kw p) σ H Q) : sE X (.Call (.Name x p2) es kw p) σ H Q := q
theorem gO (q : sE X (.BinOp l o r p) σ H Q) : sE X (.BinOp l o r p) σ H Q := q
theorem gM (q : sE X (.Compare l ops es p) σ H Q) : sE X (.Compare l ops es p) σ H Q := q
end
section
variable {p : Prop} [Decidable p] {A B : Prop}
theorem iteYd (h : p) (k : A) : if decide p = true then A else B := iteY (decide_eq_true h) k
theorem iteNd (h : ¬ p) (k : B) : if decide p = true then A else B := iteF' (decide_eq_false h) k
theorem iteYn (h : ¬ p) (k : A) : if (!decide p) = true then A else B := iteY (by rw [decide_eq_false h]; rfl) k
theorem iteNn (h : p) (k : B) : if (!decide p) = true then A else B := iteF' (by rw [decide_eq_true h]; rfl) k
end
section
variable {H H0 H' : Hp} {a p : Addr} {rs : List Addr} {cs : List (List Int)} {o : HO}
theorem all_const {α : Type} {l : List α} : (l.map fun _ => true).all id = true := by
  rw [List.all_map]; exact List.all_eq_true.mpr fun _ _ => rfl
theorem zip_refs (h : rs.length = cs.length) : rs.map V.ref = (rs.zip cs).map fun p => V.ref p.1 := by
  rw [show (fun p : Addr × List Int => V.ref p.1) = V.ref ∘ Prod.fst from rfl, ← List.map_map, List.map_fst_zip (by omega)]
theorem zip_snd {α β : Type} {l : List α} {m : List β} (h : l.length = m.length) : (l.zip m).map Prod.snd = m := List.map_snd_zip (by omega)
theorem pair_zip {α β : Type} {F : α → β → Prop} : ∀ {l : List α} {m : List β} {x : α × β}, Paired F l m → x ∈ l.zip m → F x.1 x.2
  | _, _, _, .nil, h => by simp at h
  | _, _, _, .cons h t, e => by
    rcases List.mem_cons.mp (show _ ∈ _ :: _ from e) with e | e
    · rw [e]; exact h
    · exact pair_zip t e
theorem LL.atZ {c : Addr × List Int} (h : LL H a rs cs) (hc : c ∈ rs.zip cs) : At H c.1 (.lst (c.2.map V.int)) := ⟨pair_zip h.row hc⟩
theorem New.pre (n : New H p o H') (e : Ex H0 H) : New H0 p o H' := ⟨Evl.fresh_back e n.fr, e.trans n.ex, n.at_⟩
theorem NewLs.pre {xss : List (List V)} (n : NewLs H p rs xss H') (e : Ex H0 H) : NewLs H0 p rs xss H' := ⟨e.trans n.ex, n.top, n.row, Evl.fresh_back e n.fd, fun r hr => Evl.fresh_back e (n.fr r hr), n.nd, n.ni⟩
set_option synthInstance.checkSynthOrder false in
instance Up.newLs {xss : List (List V)} [n : NewLs H p rs xss H'] : Up H H' := ⟨n.ex⟩
theorem pair_map {α β γ : Type} {F : α → γ → Prop} {f : β → γ} : ∀ {l : List α} {m : List β}, Paired F l (m.map f) → Paired (fun a b => F a (f b)) l m
  | _, [], h => by cases h; exact .nil
  | _, b :: m, h => by
    cases h with
    | cons h t => exact .cons h (pair_map t)
theorem NewLs.ll (n : NewLs H p rs (cs.map fun c => c.map V.int) H') : LL H' p rs cs := ⟨n.top, pair_map (F := fun r xs => H' r = some (.lst xs)) (f := fun (c : List Int) => c.map V.int) n.row⟩
set_option synthInstance.checkSynthOrder false in
instance LL.ofNew [n : NewLs H p rs (cs.map fun c => c.map V.int) H'] : LL H' p rs cs := n.ll
end
section
variable {H : Hp} {Q : VK} {l : Addr} {K : PySem.W.Frag} {xs : List V} {ns : List Int}
theorem y_sorted [h : At H l (.lst xs)] [z : Ints xs ns] (hz : ns.length < 64) (q : ∀ (ms : List Int) p H', ms.Perm ns → ms.Pairwise (· ≤ ·) → New H p (.lst (ms.map V.int)) H' → Q (.ref p) H') : rSorted K [.ref l] H Q := x_sorted (by rw [h.h, z.h]) hz q
theorem pw_unique : ∀ {l m : List Int}, l.Perm m → l.Pairwise (· ≤ ·) → m.Pairwise (· ≤ ·) → l = m
  | [], m, p, _, _ => (List.nil_perm.mp p).symm
  | x :: l, [], p, _, _ => by have := p.length_eq; simp at this
  | x :: l, y :: m, p, h1, h2 => by
    have a1 := List.pairwise_cons.mp h1
    have a2 := List.pairwise_cons.mp h2
    have e : x = y := by
      have hx : x ∈ y :: m := p.mem_iff.mp (List.Mem.head _)
      have hy : y ∈ x :: l := p.mem_iff.mpr (List.Mem.head _)
      rcases List.mem_cons.mp hx with e | e
      · exact e
      · rcases List.mem_cons.mp hy with e' | e'
        · exact e'.symm
        · have := a1.1 y e'; have := a2.1 x e; omega
    subst e
    rw [pw_unique (List.Perm.cons_inv p) a1.2 a2.2]
theorem perm_range {ms : List Int} {n : Nat} (p : ms.Perm ((List.range n).map fun (k : Nat) => (k : Int))) (s : ms.Pairwise (· ≤ ·)) : ms = (List.range n).map fun (k : Nat) => (k : Int) := by
  refine pw_unique p s (List.pairwise_map.mpr ?_)
  refine List.Pairwise.imp (fun {a b} h => ?_) (List.pairwise_lt_range (n := n))
  omega
end
section
variable {X : Cx} {sc : Scope} {N R S G B : List Str} {σ : St} {H H0 H' H2 : Hp} {Q Q' : VK} {D : Ends} {c : Expr} {body orl rest : List Stmt} {pos : Pos} {p d : Addr} {rs : List Addr} {xss : List (List V)} {xs : List V} {i j : Int} {K : PySem.W.Frag}
/-- an if, then what follows, shown once from Mid -/
theorem b_ifM (Mid : St → Hp → Prop) (q : sT X c σ H fun d H1 => if d = true then sB X body { D with nx := Mid } σ H1 else sB X orl { D with nx := Mid } σ H1) (k : ∀ σ' H', Mid σ' H' → sB X rest D σ' H') : sB X (.If c body orl pos :: rest) D σ H :=
  oB (Evl.pss_cut (ps_if pT pB pB) pB) ⟨Mid, q, k⟩
theorem NewLs.nil (n : New H d (.lst []) H') : NewLs H d [] [] H' := ⟨n.ex, n.at_, .nil, n.fr, fun _ h => by simp at h, List.nodup_nil, by simp⟩
theorem pair_upd {o : HO} : ∀ {rs : List Addr} {xss : List (List V)}, Paired (fun r xs => H r = some (.lst xs)) rs xss → d ∉ rs → Ex H H' → Paired (fun r xs => upd H' d o r = some (.lst xs)) rs xss
  | _, _, .nil, _, _ => .nil
  | _, _, .cons h t, ni, e => .cons (by rw [upd_ne (fun z => ni (by rw [z]; exact List.Mem.head _))]; exact e _ _ h) (pair_upd t (fun z => ni (List.Mem.tail _ z)) e)
theorem NewLs.post (n : NewLs H0 d rs xss H) (e : Ex H H') : NewLs H0 d rs xss H' := ⟨n.ex.trans e, e _ _ n.top, pair_mono (fun _ _ q => e _ _ q) n.row, n.fd, n.fr, n.nd, n.ni⟩
theorem NewLs.len (n : NewLs H0 d rs xss H) : rs.length = xss.length := Paired.length n.row
/-- one more new list comes to the list at d -/
theorem NewLs.app (n : NewLs H0 d rs xss H) (e : Ex H H') (hp : H p = none) (h : H' p = some (.lst xs)) : NewLs H0 d (rs ++ [p]) (xss ++ [xs]) (upd H' d (.lst (rs.map V.ref ++ [.ref p]))) := by
  have nd : p ≠ d := fun z => by rw [z, n.top] at hp; cases hp
  have nr : p ∉ rs := fun z => by obtain ⟨o, ho⟩ := pair_some n.row p z; rw [ho] at hp; cases hp
  refine ⟨Ex.mut (n.ex.trans e) n.fd, by rw [upd_same, List.map_append]; rfl, ?_, n.fd, ?_, ?_, ?_⟩
  · refine pair_snoc ?_ (by rw [upd_ne nd]; exact h)
    exact pair_upd n.row n.ni e
  · intro r hr
    rcases List.mem_append.mp hr with hr | hr
    · exact n.fr r hr
    · have : r = p := by simpa using hr
      rw [this]
      exact Evl.fresh_back n.ex hp
  · refine List.nodup_append.mpr ⟨n.nd, by simp, fun a ha b hb z => ?_⟩
    have : b = p := by simpa using hb
    exact nr (by rw [← this, ← z]; exact ha)
  · intro z
    rcases List.mem_append.mp z with z | z
    · exact n.ni z
    · exact nd (List.mem_singleton.mp z).symm
theorem x_mulL (h : -100000000000 < i ∧ i < 100000000000) (q : Q (.int (i * j)) H) : rMul3 (.int i) (.int j) H Q := x_mul (.inl ⟨by omega, by omega⟩) q
theorem x_mulR (h : -100000000000 < j ∧ j < 100000000000) (q : Q (.int (i * j)) H) : rMul3 (.int i) (.int j) H Q := x_mul (.inr ⟨by omega, by omega⟩) q
theorem x_divO (h : 0 < j ∧ j < 1073741824) (q : Q (.int (i / j)) H) : rDiv' (.int i) (.int j) H Q := x_div h.1 h.2 q
theorem x_powO (h : 0 ≤ j ∧ j ≤ 1000 ∧ i.natAbs < 1000) (q : Q (.int (i ^ j.toNat)) H) : rPow' (.int i) (.int j) H Q := x_pow h.1 h.2.1 h.2.2 q
/-- a number below 2 ^ b -/
def Bt (b : Nat) (n : Int) : Prop := n.natAbs < 2 ^ b
theorem Bt.log {b : Nat} {n : Int} (h : Bt b n) : n.natAbs.log2 ≤ b := by
  by_cases z : n.natAbs = 0
  · rw [z]; exact Nat.zero_le _
  · exact Nat.le_of_lt ((Nat.log2_lt z).mpr h)
theorem Bt.mono {b c : Nat} {n : Int} (h : Bt b n) (l : b ≤ c) : Bt c n := Nat.lt_of_lt_of_le h (Nat.pow_le_pow_right (by decide) l)
theorem Bt.add {b : Nat} {m n : Int} (h : Bt b m) (h' : Bt b n) : Bt (b + 1) (m + n) := by
  unfold Bt at *
  rw [Nat.pow_succ]
  have := Int.natAbs_add_le m n
  omega
theorem Bt.mul {b c : Nat} {m n : Int} (h : Bt b m) (h' : Bt c n) : Bt (b + c) (m * n) := by
  unfold Bt at *
  rw [Int.natAbs_mul, Nat.pow_add]
  exact Nat.mul_lt_mul'' h h'
theorem Bt.of (b : Nat) {n : Int} (h : n.natAbs < 2 ^ 40) (l : 40 ≤ b) : Bt b n := Bt.mono (b := 40) h l
theorem Bt.bits {n : Int} (h : Builtin.Int.intBits n ≤ 1048576) : Bt 1048576 n := by
  unfold Builtin.Int.intBits at h
  unfold Bt
  split at h
  · rename_i z
    have : n.natAbs = 0 := by simpa using z
    rw [this]
    generalize 1048576 = b
    exact Nat.two_pow_pos b
  · rename_i z
    have z' : n.natAbs ≠ 0 := by simpa using z
    exact (Nat.log2_lt z').mp (by omega)
end
section
variable {X : Cx} {σ : St} {H : Hp} {l : Addr} {vs xs : List V} {o : HO} {R : Addr → Hp → Prop} {i j : Int} {n : Nat} {ns : List Int} {bs : List Bool}
theorem x_lst0 (h : Nat.ble vs.length 100000 = true) (k : ∀ p H', New H p o H' → R p H') : vs.length ≤ 100000 ∧ ∀ p H', New H p o H' → R p H' := ⟨Nat.le_of_ble_eq_true h, k⟩
theorem x_sl0 [s : Sq X.K H l xs] (h : 0 ≤ i) (k : ∀ p H', New H p (.lst (xs.take i.toNat)) H' → R p H') : ∃ (l' : Addr) (xs : List V) (n : Nat), V.ref l = .ref l' ∧ V.int i = .int n ∧ SqL X.K H l' xs ∧ ∀ p H', New H p (.lst (xs.take n)) H' → R p H' :=
  ⟨l, xs, i.toNat, rfl, by rw [Int.toNat_of_nonneg h], s.h, k⟩
theorem x_sl1 [s : Sq X.K H l xs] (h : 0 ≤ i) (k : ∀ p H', New H p (.lst (xs.drop i.toNat)) H' → R p H') : ∃ (l' : Addr) (xs : List V) (n : Nat), V.ref l = .ref l' ∧ V.int i = .int n ∧ SqL X.K H l' xs ∧ ∀ p H', New H p (.lst (xs.drop n)) H' → R p H' :=
  ⟨l, xs, i.toNat, rfl, by rw [Int.toNat_of_nonneg h], s.h, k⟩
instance Ints.take [h : Ints xs ns] : Ints (xs.take n) (ns.take n) := ⟨by rw [h.h, List.map_take]⟩
instance Ints.drop [h : Ints xs ns] : Ints (xs.drop n) (ns.drop n) := ⟨by rw [h.h, List.map_drop]⟩
instance Bools.take [h : Bools xs bs] : Bools (xs.take n) (bs.take n) := ⟨by rw [h.h, List.map_take]⟩
instance Bools.drop [h : Bools xs bs] : Bools (xs.drop n) (bs.drop n) := ⟨by rw [h.h, List.map_drop]⟩
end
section
variable {X : Cx} {sc scope : Scope} {N R S G B R' G' : List Str} {σ : St} {H H1 : Hp} {Q : VK} {x0 : Str} {elt : Expr} {ifs : List Expr} {i0 n : Nat} {l : Addr} {xs : List V} {y : V}
theorem lcR0 (pp : Nat → Bool) (f : Nat → V) [C : Ck X sc N R S G B] (hi : N[i0]? = some x0) (hl : n ≤ 40000)
    (turn : ∀ k, k < n → ∀ Hc, Up H1 Hc → ∃ σ2, Put N σ x0 (.int (k : Nat)) σ2 ∧ Turn1 X (relS scope sc) N R' [x0] G' B elt ifs σ2 Hc (pp k) (f k))
    (done : ∀ D H', New H1 D (.lst (((List.range n).filter pp).map f)) H' → Q (.ref D) H') : lcQ X (relS scope sc) N R' [x0] G' B [i0] (gName i0) elt ifs σ (Itr 0 n) H1 Q :=
  lcR pp f hi hl (fun k hk Hc u => by rw [Int.zero_add]; exact turn k hk Hc u) done
theorem lcRN0 (pp : Nat → Bool) (f : Nat → List V) [C : Ck X sc N R S G B] (hi : N[i0]? = some x0) (hl : n ≤ 40000)
    (turn : ∀ k, k < n → ∀ Hc, Up H1 Hc → ∃ σ2, Put N σ x0 (.int (k : Nat)) σ2 ∧ TurnN X (relS scope sc) N R' [x0] G' B elt ifs σ2 Hc (pp k) (f k))
    (done : ∀ D rs H', NewLs H1 D rs (((List.range n).filter pp).map f) H' → Q (.ref D) H') : lcQ X (relS scope sc) N R' [x0] G' B [i0] (gName i0) elt ifs σ (Itr 0 n) H1 Q :=
  lcRN pp f hi hl (fun k hk Hc u => by rw [Int.zero_add]; exact turn k hk Hc u) done
theorem x_app2 {P : List V → Prop} [h : At H l (.lst xs)] (hz : xs.length < 100000) (q : P xs) : ∃ xs, H l = some (.lst xs) ∧ xs.length < 100000 ∧ P xs := ⟨xs, h.h, hz, q⟩
end
section
variable {x y : V} {H : Hp} {Q : VK} {K : PySem.W.Frag} {b : Bool} {A B : Prop} {vs : List V} {R : Addr → Hp → Prop} {o : HO} {c d : Prop}
theorem gI (q : if b = true then A else B) : if b = true then A else B := q
theorem gMul (q : rMul3 x y H Q) : rMul3 x y H Q := q
theorem gMod (q : rMod' x y H Q) : rMod' x y H Q := q
theorem gDiv (q : rDiv' x y H Q) : rDiv' x y H Q := q
theorem gShr (q : rShr' x y H Q) : rShr' x y H Q := q
theorem gEq (q : rEq' K x y H Q) : rEq' K x y H Q := q
theorem gNe (q : rNe' K x y H Q) : rNe' K x y H Q := q
theorem gAnd (q : c ∧ d) : c ∧ d := q
theorem gExi {α : Type} {P : α → Prop} (q : ∃ a, P a) : ∃ a, P a := q
end
section
variable {H H0 H' Hx Hy : Hp} {a p : Addr} {rs : List Addr} {cs : List (List Int)} {vs xs : List V} {o : HO} {c : List Int}
set_option synthInstance.checkSynthOrder false in
instance Fr.later [n : New Hx p o Hy] [e : Exs H Hx] : Fr H p := ⟨Evl.fresh_back e.ex n.fr⟩
/-- rows written out -/
class Rows (H : Hp) (vs : List V) (rs : outParam (List Addr)) (cs : outParam (List (List Int))) : Prop where
  top : vs = rs.map V.ref
  row : Paired (fun r c => H r = some (.lst (c.map V.int))) rs cs
instance : Rows H [] [] [] := ⟨rfl, .nil⟩
instance [h : At H a (.lst xs)] [z : Ints xs c] [t : Rows H vs rs cs] : Rows H (.ref a :: vs) (a :: rs) (c :: cs) := ⟨by rw [t.top]; rfl, .cons (by rw [h.h, z.h]) t.row⟩
instance (priority := low) LL.ofRows [h : At H a (.lst vs)] [t : Rows H vs rs cs] : LL H a rs cs := ⟨by rw [h.h, t.top], t.row⟩
end
/-- the law's end over a head by facts, with the numbers' bits -/
theorem walk_ofEB {l : PySem.W.OpenLaw} {n k : Nat} {q : Program} {loose : List Str} {XP : (Str → Option Value) → Heap → Prop} {YP : World → Heap → Prop} {d : DefRec} {CX : World → CXT} {x : Str}
    (hn : l.most = some n) (hn2 : n ≤ sizeLine) (hdf : d.params.defaults = []) (hr : Room k callerA)
    (F : ∀ (w : World) (mg : Str → Option Value) (fa : Addr) (h : Heap), YP w h → h.Ns mainGlobals mg → mg d.name = some (.ref fa) →
      ∃ (K : PySem.W.Frag) (fd : FuncData) (sp : Sp), K.In h ∧ (∀ (s : Shared) (u : Value), BindsTo s fd ⟨[u], []⟩ [(x, u)]) ∧
        (∀ (H : Hp) (a : Addr) (ns : List Int), ns.length ≤ n → (∀ z ∈ ns, Builtin.Int.intBits z ≤ 1048576) → Only H → SqL K H a (ns.map V.int) → sp [.ref a] H (fun v _ => v = .bl true) fun _ _ _ => False) ∧
        ∀ base : Heap, K.In base → base.Ns mainGlobals mg → FnOk l.prog w K mg base (CX w) k fa fd [x] sp)
    (hCX : ∀ (w : World) (H : Hp) (s : Shared) (e : Value) (s' : Shared), CX w [] H s (fun _ _ _ => False) e s' → False) :
    PySem.W.WalkO q loose XP YP l.row.toRowW d [] (fun f vs => PySem.call f vs) := by
  refine Att.attach_callB hn hdf fun w s₀ s₁ mg mb fa o pm cd doc a vs ns G Y ho hd hcd hmg hobj hints hlen hbits hg => ?_
  obtain ⟨K, fd, sp, KX, hb, hsp, hF⟩ := F w mg fa _ Y G.T.g hmg
  exact law_call KX G.T.g G.T.b G.T.builtins G.T.nolimit hg hobj hints (Nat.le_trans hlen hn2) hr hF hb (fun H hO hS => hsp H a ns hlen hbits hO hS) fun H e s' => hCX w H s₁ e s'
section
variable {X : Cx} {σ : St} {H H' : Hp} {a c : Expr} {b : Bool} {Q : VK} {rs : List Addr} {cs : List (List Int)} {l m : Addr}
theorem ite_mono (Q' : VK) (k : ∀ v H', Q' v H' → Q v H') (q : if b = true then sE X a σ H Q' else sE X c σ H Q') : if b = true then sE X a σ H Q else sE X c σ H Q := by
  cases b with
  | true => exact sE_mono k q
  | false => exact sE_mono k q
theorem LL.cat {rs' : List Addr} {cs' : List (List Int)} {p : Addr} (h : LL H l rs cs) (h' : LL H m rs' cs') (n : New H p (.lst (rs.map V.ref ++ rs'.map V.ref)) H') : LL H' p (rs ++ rs') (cs ++ cs') :=
  ⟨by rw [n.at_, List.map_append], pair_mono (fun _ _ q => n.ex _ _ q) (pair_append h.row h'.row)⟩
theorem LL.tk {k : Nat} {p : Addr} (h : LL H l rs cs) (n : New H p (.lst ((rs.map V.ref).take k)) H') : LL H' p (rs.take k) (cs.take k) :=
  ⟨by rw [n.at_, List.map_take], pair_mono (fun _ _ q => n.ex _ _ q) (pair_take k h.row)⟩
theorem LL.pick {os : List Nat} (h : LL H l rs cs) (ho : ∀ k ∈ os, k < cs.length) : Paired (fun r c => H r = some (.lst (c.map V.int))) (os.map fun k => rs.getD k 0) (os.map fun k => cs.getD k []) := by
  induction os with
  | nil => exact .nil
  | cons k r ih =>
    refine .cons ?_ (ih fun k hk => ho k (List.Mem.tail _ hk))
    have hk := ho k (List.Mem.head _)
    obtain ⟨c, hc, _⟩ := get_lt (as := cs) (i := k) hk
    obtain ⟨x, hx, q⟩ := pair_get' h.row hc
    show H (rs.getD k 0) = some (.lst ((cs.getD k []).map V.int))
    rw [List.getD_eq_getElem?_getD, List.getD_eq_getElem?_getD, hx, hc]
    exact q
theorem NewLs.rowAt {H0 : Hp} {p : Addr} {xss : List (List V)} (n : NewLs H0 p rs xss H) {r : Addr} (hr : r ∈ rs) : ∃ xs ∈ xss, H r = some (.lst xs) := pair_mem n.row hr
end
end L2.Z
namespace L2.Z
open PySem PySem.Spec PyProof.Rows
open Evl (Ex)
/-! ### own classes -/
/-- a class without an __init__ of its own -/
structure Nk (K : PySem.W.Frag) (C : Addr) : Prop where
  makes : PySem.W.makesIn K C = true
  init : PySem.W.findIn K (.ref C) "__init__" = some (some (.builtin "object.__init__"))
  kp : PySem.W.keepIn K (.ref C) = true
theorem run_new {X : Cx} {C : Addr} {pins : List (Addr × Obj)} {σ : St} {H : Hp} {s : Shared} {Q : VK} (M : Nk X.K C) (I : Inv X pins σ H s)
    (h : ∀ x dx, H x = none → H dx = none → dx ≠ x → Q (.ref x) (upd (upd H dx (.own x)) x (.ins C dx []))) :
    wpAny (model X.prog X.w) X.A (call (.ref C) []) (EP X pins σ Q) X.xe s := by
  have hq := h (s.heap.objs.size + 1) s.heap.objs.size (I.hok.fresh (Nat.le_succ _)) (I.hok.fresh (Nat.le_refl _)) (Nat.ne_of_lt (Nat.lt_succ_self _))
  have I2 := Inv.made (C := C) I
  refine wpAny_call (make_map0 I.kIn M.makes M.init (fun self => PySem.W.Looks.of_pure (PySem.W.oi_bind self)) ?_)
  have e2 : ((s.heap.push PySem.W.emptyDict).push (PySem.W.instObj C s.heap.objs.size)).get? (s.heap.objs.size + 1) = some (PySem.W.instObj C s.heap.objs.size) := by
    have := Heap.get?_push_size (s.heap.push PySem.W.emptyDict) (o := PySem.W.instObj C s.heap.objs.size) rfl
    rwa [Heap.size_push] at this
  have Y : PySem.W.Makes (model X.prog X.w) s.heap C := PySem.W.makes_of I.kIn M.makes
  have t1 : PySem.W.Looks (model X.prog X.w) ((s.heap.push PySem.W.emptyDict).push (PySem.W.instObj C s.heap.objs.size)) (typeOf (.ref (s.heap.objs.size + 1))) (.ref C) := (PySem.W.Looks.ld e2).andThen .now
  have t2 : PySem.W.Looks (model X.prog X.w) ((s.heap.push PySem.W.emptyDict).push (PySem.W.instObj C s.heap.objs.size)) (isInstance (.ref (s.heap.objs.size + 1)) (.type "object")) true :=
    t1.andThen (Y.top.keeps fun b o e => Heap.get?_push_of_some _ (Heap.get?_push_of_some _ e))
  refine codeAny_call_builtin PySem.W.oi_plain PySem.W.entry_oi (@PySem.W.check_slot (model X.prog X.w) _ _ _ "object.__init__" "object" "__init__" (.ref (s.heap.objs.size + 1)) [] [] _ PySem.W.oi_kind PySem.W.oi_split t2 (PySem.W.oi_args (.ref (s.heap.objs.size + 1))) ?_)
  rw [PySem.W.oi_run]
  exact wpAny_pure (And.intro rfl ⟨V.ref (s.heap.objs.size + 1), _, I2, rfl, hq⟩)
/-- what is known of the class x, at C: its fields' names are no attributes of it -/
class Kl (X : Cx) (C : Addr) (F : outParam (List Str)) : Prop where
  cls : Cls X.K C
  noat : ∀ f ∈ F, NoAttr X.K C f
/-- a new instance of C with these fields -/
def spIns (C : Addr) (F : List Str) : Sp := fun vs H Q _ => vs.length = F.length ∧ ∀ x dx H', New H x (.ins C dx (F.zip vs)) H' → Q (.ref x) H'
/-- how a class of the module is made: without an __init__, or by one that keeps spI -/
inductive MnD (P : Program) (w : World) (K : PySem.W.Frag) (mg : Str → Option Value) (base : Heap) : Nat → Str → Sp → Prop where
  | bare {x : Str} {C : Addr} (M : Nk K C) (hm : mg x = some (.ref C)) : MnD P w K mg base 0 x (spIns C [])
  | init {x : Str} {C fI : Addr} {fd : FuncData} {k : Nat} {ps : List Str} {spI sp : Sp} (M : Mk K C fI) (hm : mg x = some (.ref C)) (Fi : FnOk P w K mg base (L2N.CX P w) k fI fd ps spI) (hb : Binds K fd ps [])
      (hs : ∀ vs H Q, sp vs H Q E0 → ∀ y dx, H y = none → H dx = none → dx ≠ y → spI (.ref y :: vs) (upd (upd H dx (.own y)) y (.ins C dx [])) (fun v H2 => v = .non ∧ Q (.ref y) H2) E0) : MnD P w K mg base (k + 1) x sp
/-- the module's name x is a class, made by the promise sp -/
class Mn (X : Cx) (x : Str) (sp : outParam Sp) : Prop where
  ex : ∃ k, MnD X.prog X.w X.K X.mg X.base k x sp ∧ Room k X.A
/-- the class at C has the method m that keeps sp -/
class Mt (X : Cx) (C : Addr) (m : Str) (sp : outParam Sp) : Prop where
  ex : ∃ k f fd ps, Cls X.K C ∧ Meth X.K C m f ∧ FnOk X.prog X.w X.K X.mg X.base (L2N.CX X.prog X.w) k f fd ps sp ∧ Binds X.K fd ps [] ∧ Room k X.A
/-- .. as the module has them -/
structure Cm (P : Program) (w : World) (K : PySem.W.Frag) (mg : Str → Option Value) (base : Heap) (k : Nat) (C : Addr) (m : Str) (sp : Sp) : Prop where
  ex : ∃ f fd ps, Cls K C ∧ Meth K C m f ∧ FnOk P w K mg base (L2N.CX P w) k f fd ps sp ∧ Binds K fd ps []
section
variable {X X' : Cx} {sc : Scope} {N R S G B : List Str} {σ : St} {H H' : Hp} {Q : VK} {x f m : Str} {v : V} {pos p p2 : Pos} {e a o : Expr} {es : List Expr} {l C dx : Addr} {fs : List (Str × V)} {F : List Str} {sp : Sp} {D : Ends} {rest : List Stmt}
instance Kl.sub [s : Sub X X'] [h : Kl X C F] : Kl X' C F := ⟨by rw [s.K]; exact h.cls, fun f hf => by rw [s.K]; exact h.noat f hf⟩
instance Kl.nox [h : Kl X C F] : Kl X.nox C F := ⟨h.cls, h.noat⟩
theorem new_ins {y dx : Addr} {fs : List (Str × V)} (h1 : H y = none) (h2 : H dx = none) (h3 : dx ≠ y) : New H y (.ins C dx fs) (upd (upd H dx (.own y)) y (.ins C dx fs)) :=
  ⟨h1, Ex.mut (Ex.new h2) h1, upd_same⟩
theorem e_make [C' : Ck X sc N R S G B] [mm : Mm G x] [M : Mn X x sp] (q : sA X (e :: es) σ H fun vs H1 => sp vs H1 Q E0)
    (he : starEach (e :: es) X.env = (false, eval e X.env) :: starEach es X.env := by rfl) (hpl : (backTo pos (starEach es X.env)).any (·.1) = false := by rfl) : sE X (.Call (.Name x p) (e :: es) [] pos) σ H Q := by
  obtain ⟨hg, hd, _⟩ := C'.glo x mm.mem
  obtain ⟨k, d, hr⟩ := M.ex
  cases d with
  | bare M2 hm =>
    refine ⟨fun pins s I => ?_⟩
    refine wpAny_Call_Name_kw (ld_glob I hg hm ?_ hd)
    refine PySem.W.callWith_K (h₀ := X.base) I.ok.mod.kin M2.kp (thn (pA.run pos pins s σ H _ I q) fun us s1 ⟨vs, H1, I1, r, q⟩ => ⟨I1.kIn, ?_⟩) he hpl
    have e0 : vs = [] := List.length_eq_zero_iff.mp q.1
    subst e0
    cases r
    exact run_new M2 I1 fun y dx h1 h2 h3 => q.2 y dx _ (new_ins h1 h2 h3)
  | init M hm Fi hb hs =>
    refine oE (pe_make (dvs := []) (ds := []) M Fi hr hg hm hb .nil passN pA hd he hpl) ?_
    exact sA_mono (fun vs H1 k => fun y dx h1 h2 h3 => by rw [List.append_nil]; exact hs vs H1 Q k y dx h1 h2 h3) q
theorem e_make0 [C' : Ck X sc N R S G B] [mm : Mm G x] [M : Mn X x sp] (q : sp [] H Q E0) : sE X (.Call (.Name x p) [] [] pos) σ H Q := by
  obtain ⟨hg, hd, _⟩ := C'.glo x mm.mem
  obtain ⟨k, d, hr⟩ := M.ex
  cases d with
  | bare M2 hm =>
    refine ⟨fun pins s I => ?_⟩
    refine wpAny_Call_Name_kw (ld_glob I hg hm ?_ hd)
    exact PySem.W.callWith_K0 I.kIn M2.kp (run_new M2 I fun y dx h1 h2 h3 => q.2 y dx _ (new_ins h1 h2 h3))
  | init M hm Fi hb hs =>
    refine oE (pe_make0 (dvs := []) (ds := []) M Fi hr hg hm hb .nil passN hd) ?_
    exact fun y dx h1 h2 h3 => hs [] H Q q y dx h1 h2 h3
theorem x_ins (C : Addr) (F : List Str) {vs : List V} {E : XK} (h : vs.length = F.length) (q : ∀ x dx H', New H x (.ins C dx (F.zip vs)) H' → Q (.ref x) H') : spIns C F vs H Q E := ⟨h, q⟩
/-- o.f -/
def rFld (K : PySem.W.Frag) (f : Str) (x : V) (H : Hp) (Q : VK) : Prop := ∃ a C dx fs v, x = .ref a ∧ H a = some (.ins C dx fs) ∧ Cls K C ∧ NoAttr K C f ∧ fs.lookup f = some v ∧ Q v H
theorem e_fld (q : sE X o σ H fun x H1 => rFld X.K f x H1 Q) (hb : attributeBase o f X.env (eval o X.env) = eval o X.env := by rfl) : sE X (.Attribute o f pos) σ H Q := oE (pe_fld pE hb) q
class Lk (fs : List (Str × V)) (f : Str) (v : outParam V) : Prop where
  h : fs.lookup f = some v
class NeS (a b : Str) : Prop where
  h : (a == b) = false
instance (priority := high) Lk.here : Lk ((f, v) :: fs) f v := ⟨by simp [List.lookup]⟩
instance Lk.next {g : Str} {w : V} [n : NeS f g] [h : Lk fs f v] : Lk ((g, w) :: fs) f v := ⟨by simp only [List.lookup, n.h]; exact h.h⟩
instance Lk.zip {F : List Str} {vs : List V} [h : Lk (F.zip vs) f v] : Lk (List.zip F vs) f v := h
theorem x_fld [h : At H l (.ins C dx fs)] [k : Kl X C F] [m : Mm F f] [z : Lk fs f v] (q : Q v H) : rFld X.K f (.ref l) H Q := ⟨l, C, dx, fs, v, rfl, h.h, k.cls, k.noat f m.mem, z.h, q⟩
/-- self.f = e in an __init__ -/
theorem b_fld (q : sE X e σ H fun y H1 => sE X o σ H1 fun x H2 => ∃ a C dx fs, x = .ref a ∧ H2 a = some (.ins C dx fs) ∧ Cls X.K C ∧ NoAttr X.K C f ∧ fs.length < 1000 ∧ sB X rest D σ (upd H2 a (.ins C dx (putF f y fs))))
    (hs : swapsWith e (some (.Attribute o f p)) pos.line X.env = pure false := by rfl) : sB X (.Assign [.Attribute o f p] e pos :: rest) D σ H := oB (pss_cons (ps_fld pE pE hs) pB) q
theorem x_sto {P : Addr → Addr → Addr → List (Str × V) → Prop} [h : At H l (.ins C dx fs)] [k : Kl X C F] [m : Mm F f] (hl : fs.length < 1000) (q : P l C dx fs) :
    ∃ a C dx fs, V.ref l = .ref a ∧ H a = some (.ins C dx fs) ∧ Cls X.K C ∧ NoAttr X.K C f ∧ fs.length < 1000 ∧ P a C dx fs := ⟨l, C, dx, fs, rfl, h.h, k.cls, k.noat f m.mem, hl, q⟩
/-- o.m(..) -/
theorem e_meth (C : Addr) [M : Mt X C m sp] (q : sE X o σ H fun v H1 => ∃ a dx fs, v = .ref a ∧ H1 a = some (.ins C dx fs) ∧ fs.lookup m = none ∧ sA X (e :: es) σ H1 fun vs H2 => sp (v :: vs) H2 Q E0)
    (hst : starEach (e :: es) X.env = (false, eval e X.env) :: starEach es X.env := by rfl) (hpl : (backTo pos (starEach es X.env)).any (·.1) = false := by rfl) {pl : Sem Bool}
    (ht : eval (.Call (.Attribute o m p) (e :: es) [] pos) X.env = (do
      let ov ← eval o X.env
      standAt p.atName
      let (f, first) ← holding [ov] (getMethod ov m pl)
      callWith pos f first (backTo pos (starEach (e :: es) X.env)) (backToKw pos (keywordEach [] X.env))) := by rfl) : sE X (.Call (.Attribute o m p) (e :: es) [] pos) σ H Q := by
  obtain ⟨k, f, fd, ps, c, hm, ok, b, hr⟩ := M.ex
  refine oE (pe_meth (dvs := []) (ds := []) pE c hm ok hr b .nil passN pA hst hpl ht) ?_
  refine sE_mono (fun v H1 h => ?_) q
  obtain ⟨a, dx, fs, e1, e2, e3, k⟩ := h
  exact ⟨a, dx, fs, e1, e2, e3, sA_mono (fun vs H2 k => by rw [List.append_nil]; exact k) k⟩
theorem x_meth {P : Prop} [h : At H l (.ins C dx fs)] (hl : fs.lookup m = none) (q : P) : ∃ a dx fs, V.ref l = .ref a ∧ H a = some (.ins C dx fs) ∧ fs.lookup m = none ∧ P := ⟨l, dx, fs, rfl, h.h, hl, q⟩
instance Mt.sub [s : Sub X X'] [h : Mt X C m sp] : Mt X' C m sp := ⟨by rw [s.K, s.pr, s.w, s.mg, s.base, s.un]; exact h.ex⟩
instance Mn.sub [s : Sub X X'] [h : Mn X x sp] : Mn X' x sp := ⟨by rw [s.K, s.pr, s.w, s.mg, s.base, s.un]; exact h.ex⟩
instance Mt.nox [h : Mt X C m sp] : Mt X.nox C m sp := ⟨h.ex⟩
instance Mn.nox [h : Mn X x sp] : Mn X.nox x sp := ⟨h.ex⟩
/-! ### isinstance of own instances -/
/-- what isinstance asks of the class at C -/
structure TiK (K : PySem.W.Frag) (C : Addr) : Prop where
  ha : PySem.W.findIn K (.ref C) "__class__" = some (some (.builtin "object.__class__"))
  hn : PySem.W.specialIn K (.builtin "object.__class__") "__get__" = some (some (.builtin "getset_descriptor.__get__"))
  htk : PySem.W.takesIn K (.builtin "object.__class__") = some true
  hm : PySem.W.mroIn K C (.type "object") = some true
/-- an instance of C is (b) one of C' -/
class Ki (X : Cx) (C C' : Addr) (b : outParam Bool) : Prop where
  ti : TiK X.K C
  h : PySem.W.kitOne X.K (.ref C) (.ref C') = some b
instance Ki.sub {C' : Addr} {b : Bool} [s : Sub X X'] [h : Ki X C C' b] : Ki X' C C' b := ⟨by rw [s.K]; exact h.ti, by rw [s.K]; exact h.h⟩
theorem x_isiO {C' : Addr} {b : Bool} [h : At H l (.ins C dx fs)] [k : Kl X C F] [i : Ki X C C' b] (q : Q (.bl b) H) : rIsi X.K [.ref l, .ref C'] H Q :=
  ⟨.ref l, .ref C', .ref C, .ref C', b, rfl, .own C', .base (.ins h.h k.cls i.ti.ha i.ti.hn i.ti.htk i.ti.hm), i.h, q⟩
/-! ### an __init__ that stores its arguments; a method, by its body -/
def spInit (C : Addr) (F : List Str) : Sp := fun vs H Q _ => ∃ x vs' dx, vs = .ref x :: vs' ∧ vs'.length = F.length ∧ H x = some (.ins C dx []) ∧ ∀ H2, (∀ b o, b ≠ x → H b = some o → H2 b = some o) → H2 x = some (.ins C dx (F.zip vs')) → Q .non H2
theorem init_ins {C : Addr} {F : List Str} : ∀ vs H Q, spIns C F vs H Q E0 → ∀ y dx, H y = none → H dx = none → dx ≠ y → spInit C F (.ref y :: vs) (upd (upd H dx (.own y)) y (.ins C dx [])) (fun v H2 => v = .non ∧ Q (.ref y) H2) E0 := fun vs H Q h y dx h1 h2 h3 =>
  ⟨y, vs, dx, rfl, h.1, upd_same, fun H2 k e => ⟨rfl, h.2 y dx H2 ⟨h1, fun b o hb => k b o (ne_of_none hb h1) (by rw [upd_ne (ne_of_none hb h1), upd_ne (ne_of_none hb h2)]; exact hb), e⟩⟩⟩
end
/-- the method's function: where it stands, its place in the class -/
structure Dm (K : PySem.W.Frag) (C : Addr) (x qual : Str) (st : Stmt) (ps : List Str) : Prop where
  ex : ∃ f fd, FunD K x qual (defArgs st) (defBody st) (defScope st) [] [] f fd ∧ Binds K fd ps [] ∧ PySem.W.findIn K (.ref C) x = some (some (.ref f)) ∧ PySem.W.isFn K (.ref f) = true
section
variable {P : Program} {w : World} {K : PySem.W.Frag} {mg : Str → Option Value} {base : Heap}
theorem okM {x qual : Str} {st : Stmt} {N ps R G B : List Str} {k : Nat} {sp : Sp} {f : Addr} {fd : FuncData} (F : FunD K x qual (defArgs st) (defBody st) (defScope st) [] [] f fd) (d : DefOk (defScope st) N ps R G) (hB : ∀ y ∈ B, mg y = none) (len : ∀ vs H Q E, sp vs H Q E → vs.length = ps.length)
    (body : ∀ X : Cx, Bd P w K mg base k X → Ck X (defScope st) N R R G B → ∀ vs H Q E, L2N.Takes X (fun cls d _ H => E cls d H) → sp vs H Q E →
      sB X (defBody st) { nx := fun _ H' => Q .non H', rt := Q } (start N vs) H) : FnOk P w K mg base (L2N.CX P w) (k + 1) f fd ps sp := by
  refine F.ok d.fs len fun cdv A outer s H vs Q E hr hsp => ⟨_, pB, ?_⟩
  have bd : Bd P w K mg base k (cxOf (L2N.CX P w) P w K mg base N qual (defScope st) f cdv A outer s H E) :=
    ⟨fun {y ps sp j} h hj => ⟨j, ps, h, hr.mono hj⟩, fun {y v} h => ⟨h⟩, rfl, rfl, Ru.of hr, ⟨passes_of rfl⟩, hr, rfl, rfl, rfl, rfl, rfl⟩
  refine body _ bd (Ck.ofDef d rfl rfl rfl rfl hB) vs H Q E (L2N.takes_of rfl rfl rfl rfl) hsp
/-- a method of the class at C -/
theorem okm {C : Addr} {x qual : Str} {st : Stmt} {N ps R G B : List Str} {k : Nat} {sp : Sp} (c : Cls K C) (F : Dm K C x qual st ps) (d : DefOk (defScope st) N ps R G) (hB : ∀ y ∈ B, mg y = none) (len : ∀ vs H Q E, sp vs H Q E → vs.length = ps.length)
    (body : ∀ X : Cx, Bd P w K mg base k X → Ck X (defScope st) N R R G B → ∀ vs H Q E, L2N.Takes X (fun cls d _ H => E cls d H) → sp vs H Q E →
      sB X (defBody st) { nx := fun _ H' => Q .non H', rt := Q } (start N vs) H) : Cm P w K mg base (k + 1) C x sp := by
  obtain ⟨f, fd, F, hb, h1, h2⟩ := F.ex
  exact ⟨f, fd, ps, c, ⟨h1, h2, F.kp⟩, okM F d hB len body, hb⟩
/-- an __init__ -/
theorem oki {C : Addr} {qual cl : Str} {st : Stmt} {N ps R G B : List Str} {k : Nat} {spI sp : Sp} (hm : mg cl = some (.ref C)) (mk : PySem.W.makesIn K C = true) (kp : PySem.W.keepIn K (.ref C) = true) (F : Dm K C "__init__" qual st ps) (d : DefOk (defScope st) N ps R G) (hB : ∀ y ∈ B, mg y = none) (len : ∀ vs H Q E, spI vs H Q E → vs.length = ps.length)
    (hs : ∀ vs H Q, sp vs H Q E0 → ∀ y dx, H y = none → H dx = none → dx ≠ y → spI (.ref y :: vs) (upd (upd H dx (.own y)) y (.ins C dx [])) (fun v H2 => v = .non ∧ Q (.ref y) H2) E0)
    (body : ∀ X : Cx, Bd P w K mg base k X → Ck X (defScope st) N R R G B → ∀ vs H Q E, L2N.Takes X (fun cls d _ H => E cls d H) → spI vs H Q E →
      sB X (defBody st) { nx := fun _ H' => Q .non H', rt := Q } (start N vs) H) : MnD P w K mg base (k + 2) cl sp := by
  obtain ⟨f, fd, F, hb, h1, h2⟩ := F.ex
  exact .init ⟨mk, h1, h2, kp⟩ hm (okM F d hB len body) hb hs
variable {X : Cx} {k : Nat}
theorem Bd.mt (b : Bd P w K mg base k X) {C : Addr} {m : Str} {sp : Sp} {j : Nat} (h : Cm P w K mg base j C m sp) (hj : j ≤ k) : Mt X C m sp := by
  obtain ⟨f, fd, ps, h1, h2, h3, h4⟩ := h.ex
  exact ⟨j, f, fd, ps, by rw [b.K]; exact h1, by rw [b.K]; exact h2, by rw [b.K, b.pr, b.w, b.mg, b.base]; exact h3, by rw [b.K]; exact h4, b.rm.mono hj⟩
theorem Bd.mn (b : Bd P w K mg base k X) {x : Str} {sp : Sp} {j : Nat} (h : MnD P w K mg base j x sp) (hj : j ≤ k) : Mn X x sp := ⟨j, by rw [b.K, b.pr, b.w, b.mg, b.base]; exact h, b.rm.mono hj⟩
/-- the class at C, by its fields' names -/
structure Kc0 (K : PySem.W.Frag) (C : Addr) (F : List Str) : Prop where
  cls : Cls K C
  noat : ∀ f ∈ F, NoAttr K C f
theorem Bd.kl (b : Bd P w K mg base k X) {C : Addr} {F : List Str} (h : Kc0 K C F) : Kl X C F := ⟨by rw [b.K]; exact h.cls, fun f hf => by rw [b.K]; exact h.noat f hf⟩
theorem Bd.ki (b : Bd P w K mg base k X) {C C' : Addr} {r : Bool} (t : TiK K C) (h : PySem.W.kitOne K (.ref C) (.ref C') = some r) : Ki X C C' r := ⟨by rw [b.K]; exact t, by rw [b.K]; exact h⟩
end
end L2.Z
namespace L2.Z
open PySem PySem.Spec PyProof.Rows
open Evl (Ex)
/-- the j-th statement of a class's body -/
def inClass (st : Stmt) (j : Nat) : Stmt := match st with
  | .ClassDef _ _ _ body _ _ _ _ _ _ _ => body.getD j (.Pass ⟨0, 0, 0, 0⟩)
  | _ => .Pass ⟨0, 0, 0, 0⟩
section
variable {X : Cx} {sc : Scope} {N R S G B : List Str} {σ σ' σ2 : St} {H H' : Hp} {Q : VK} {QT : Bool → Hp → Prop} {x x1 x2 x3 : Str} {v : V} {pos p p2 px pc pr q1 q2 q3 q4 : Pos} {e a b c d o l : Expr} {es : List Expr} {D : Ends} {rest body : List Stmt} {m n : Addr} {xs ys : List V} {K : PySem.W.Frag} {i j : Int}
/-- a <= b < c < d as a test -/
theorem t_leltlt (q : sE X a σ H fun x H1 => sE X b σ H1 fun y H2 => rLe' x y H2 (asB fun k H3 => if k = true then sE X c σ H3 fun z H4 => rLt' y z H4 (asB fun k2 H5 => if k2 = true then sE X d σ H5 fun u H6 => rLt' z u H6 (asB QT) else QT false H5) else QT false H3))
    (hm : lastMarks [.LtE, .Lt, .Lt] [b, c, d] = false := by with_unfolding_all rfl) : sT X (.Compare a [.LtE, .Lt, .Lt] [b, c, d] pos) σ H QT := by
  refine ⟨fun pins s I => ?_⟩
  refine isTrue_chain (thn (q.run pins s I) fun v s1 ⟨x, H1, I1, r1, q1⟩ => test_link (thn (q1.run pins s1 I1) fun u s2 ⟨y, H2, I2, r2, q2⟩ =>
    thn (op_le pins s2 σ H2 x y v u _ I2 r1 r2 q2) fun d s3 ⟨z, H3, I3, r3, k, e, q3⟩ => ?_)) hm
  subst e
  cases r3
  refine wpAny_truthy_bool ?_
  cases k with
  | false => exact ite_ff ⟨H3, I3, q3⟩
  | true =>
    refine ite_tt (test_link (thn (q3.run pins s3 I3) fun w' s4 ⟨z', H4, I4, r4, q4⟩ => thn (op_lt pins s4 σ H4 y z' u w' _ I4 r2 r4 q4) fun d' s5 ⟨z2, H5, I5, r5, k2, e2, q5⟩ => ?_))
    subst e2
    cases r5
    refine wpAny_truthy_bool ?_
    cases k2 with
    | false => exact ite_ff ⟨H5, I5, q5⟩
    | true =>
      refine ite_tt (test_last (thn (q5.run pins s5 I5) fun w2 s6 ⟨z3, H6, I6, r6, q6⟩ => thn (op_lt pins s6 σ H6 z' z3 w' w2 _ I6 r4 r6 q6) fun d2 s7 ⟨z4, H7, I7, r7, k3, e3, q7⟩ => ?_))
      subst e3
      cases r7
      exact wpAny_truthy_bool ⟨H7, I7, q7⟩
theorem t_fld (q : sE X (.Attribute o x p) σ H (asB QT)) : sT X (.Attribute o x p) σ H QT := t_val q
/-! ### lists of pairs of numbers -/
class LP (H : Hp) (a : Addr) (ts : outParam (List Addr)) (ps : outParam (List (Int × Int))) : Prop where
  top : H a = some (.lst (ts.map V.ref))
  row : Paired (fun t (p : Int × Int) => H t = some (.tup [.int p.1, .int p.2])) ts ps
variable {ts : List Addr} {ps : List (Int × Int)}
theorem LP.up (h : LP H m ts ps) (e : Ex H H') : LP H' m ts ps := ⟨e _ _ h.top, pair_mono (fun _ _ q => e _ _ q) h.row⟩
instance (priority := low) LP.up' [u : Up H H'] [h : LP H m ts ps] : LP H' m ts ps := h.up u.ex
instance (priority := 50) At.ofLP [h : LP H m ts ps] : At H m (.lst (ts.map V.ref)) := ⟨h.top⟩
theorem dp_pair {t : Addr} (h : H t = some (.tup [.int i, .int j])) : Dp K H (.ref t) (.tuple [.int i, .int j]) := .tup (SqT.of h) (.cons (.int i) (.cons (.int j) .nil))
def pD (p : Int × Int) : PyData := .tuple [.int p.1, .int p.2]
theorem pD_lay (p : Int × Int) : (pD p).canLay0 = true := by simp [pD, PyData.canLay0, PyData.canLayAll0]
theorem pD_depth (p : Int × Int) : (pD p).depth = 1 := by simp [pD, PyData.depth, PyData.depthAll]
theorem pDs_lay : ∀ ps : List (Int × Int), PyData.canLayAll0 (ps.map pD) = true
  | [] => by simp [PyData.canLayAll0]
  | p :: ps => by simp only [List.map_cons, PyData.canLayAll0, pD_lay, pDs_lay ps, Bool.and_self]
theorem pDs_depth : ∀ ps : List (Int × Int), PyData.depthAll (ps.map pD) ≤ 1
  | [] => by simp [PyData.depthAll]
  | p :: ps => by
    rw [List.map_cons, PyData.depthAll]
    exact Nat.max_le.mpr ⟨by rw [pD_depth]; exact Nat.le_refl _, pDs_depth ps⟩
theorem pD_shaped (p : Int × Int) : SeqAt.shaped (pD p) = true := by
  unfold SeqAt.shaped
  rw [pD_lay, pD_depth]
  rfl
theorem pDs_shaped (ps : List (Int × Int)) : SeqAt.shaped (.list (ps.map pD)) = true := by
  have h := pDs_depth ps
  unfold SeqAt.shaped
  rw [PyData.canLay0, pDs_lay, PyData.depth, Bool.true_and]
  exact decide_eq_true (by omega)
theorem pD_any (p : Int × Int) (ps : List (Int × Int)) : ((ps.map pD).any fun z => PyData.eqv z (pD p)) = decide (p ∈ ps) := (PySem.W.any_datum (α := Int × Int) ps p).trans (decide_eq_decide.mpr Iff.rfl)
theorem LP.dp (h : LP H m ts ps) : Dp K H (.ref m) (.list (ps.map pD)) := .lst (SqL.of h.top) (dpAll_pair (pair_mono (fun t p q => dp_pair q) h.row))
/-- (a, b) in a list of pairs -/
theorem y_inP [h1 : At H n (.tup [.int i, .int j])] [h : LP H m ts ps] (q : Q (.bl (decide ((i, j) ∈ ps))) H) : rIn' K (.ref n) (.ref m) H Q :=
  .inr ⟨pD (i, j), ps.map pD, dp_pair h1.h, h.dp, pD_shaped _, pDs_shaped _, by rw [pD_any]; exact q⟩
/-- == of a list of pairs and [] -/
theorem y_eqPn [h : LP H m ts ps] [h2 : At H n (.lst [])] (q : Q (.bl (decide (ps = []))) H) : rEq' K (.ref m) (.ref n) H Q := by
  refine x_eqP (d := .list (ps.map pD)) (e := .list []) h.dp (.lst (SqL.of h2.h) .nil) ?_ rfl ?_ ?_
  · simp only [PyData.plain]
    exact PySem.W.plainAll_map ps
  · simp only [PyData.depth]
    have := pDs_depth ps
    omega
  · have e : PyData.eqv (.list (ps.map pD)) (.list []) = decide (ps = []) := PySem.W.Datum.eqv (α := List (Int × Int)) ps []
    rw [e]
    exact q
/-- for a, b in a list of pairs that stays (any two values) -/
theorem b_forL2 [C : Ck X sc N R S G B] [P : Po X] [m1 : Mm S x1] [m2 : Mm S x2] [n1 : Mm N x1] [n2 : Mm N x2] {k : Nat}
    (q : sE X l σ H fun v H1 => ∃ (a : Addr) (xs : List V), v = .ref a ∧ SqL X.K H1 a xs ∧ ∃ Pv : Nat → St → Hp → Prop, Pv 0 σ H1 ∧ (∀ i σ' H', i ≤ xs.length → Pv i σ' H' → SqL X.K H' a xs) ∧
      (∀ (i : Nat) v σ' H', xs[i]? = some v → Pv i σ' H' → ∃ (T : Addr) (u w : V), v = .ref T ∧ H' T = some (.tup [u, w]) ∧ ∃ σ1 σ2, Put N σ' x1 u σ1 ∧ Put N σ1 x2 w σ2 ∧ sB X body (lpE X D rest (Pv (i + 1))) σ2 H') ∧ ∀ σ' H', Pv xs.length σ' H' → sB X rest D σ' H')
    (hs : ∀ x, foldedSetIterable l X.env x = pure x := by intro _; rfl) : sB X (.For (.Tuple [.Name x1 q1, .Name x2 q2] k q3) l body [] pos :: rest) D σ H := by
  obtain ⟨i1, h1⟩ := ix_of (N := N) (x := x1)
  obtain ⟨i2, h2⟩ := ix_of (N := N) (x := x2)
  have nd := C.nd
  rw [C.nm] at nd
  refine oB (pss_cons (ps_for P.po C.calm (pi_list pE) (pg_tup C.calm (pgs_cons (pgn h1) (pgs_cons (pgn h2) pgs_nil))) pB hs) pB) ?_
  refine sE_mono (fun v H1 h => ?_) q
  obtain ⟨a, xs, e, s, Pv, h0, hl, ht, hd⟩ := h
  refine ⟨a, e, ⟨xs, s⟩, for_list (D := { D with nx := sB X rest D }) Pv h0 hl (fun i v σ' H' hv p => ?_) hd⟩
  obtain ⟨T, u, w, e1, e2, σ1, σ2, pu, pu2, k⟩ := ht i v σ' H' hv p
  refine ⟨T, [u, w], e1, SqT.of e2, rfl, u, [w], rfl, w, [], rfl, rfl, ?_⟩
  show sB X body _ ((σ'.set i1 (some u)).set i2 (some w)) H'
  rw [put_ix pu nd h1, put_ix pu2 nd h2]
  exact k
theorem b_forL3 [C : Ck X sc N R S G B] [P : Po X] [m1 : Mm S x1] [m2 : Mm S x2] [m3 : Mm S x3] [n1 : Mm N x1] [n2 : Mm N x2] [n3 : Mm N x3] {k : Nat}
    (q : sE X l σ H fun v H1 => ∃ (a : Addr) (xs : List V), v = .ref a ∧ SqL X.K H1 a xs ∧ ∃ Pv : Nat → St → Hp → Prop, Pv 0 σ H1 ∧ (∀ i σ' H', i ≤ xs.length → Pv i σ' H' → SqL X.K H' a xs) ∧
      (∀ (i : Nat) v σ' H', xs[i]? = some v → Pv i σ' H' → ∃ (T : Addr) (u w y : V), v = .ref T ∧ H' T = some (.tup [u, w, y]) ∧ ∃ σ1 σ2 σ3, Put N σ' x1 u σ1 ∧ Put N σ1 x2 w σ2 ∧ Put N σ2 x3 y σ3 ∧ sB X body (lpE X D rest (Pv (i + 1))) σ3 H') ∧ ∀ σ' H', Pv xs.length σ' H' → sB X rest D σ' H')
    (hs : ∀ x, foldedSetIterable l X.env x = pure x := by intro _; rfl) : sB X (.For (.Tuple [.Name x1 q1, .Name x2 q2, .Name x3 q4] k q3) l body [] pos :: rest) D σ H := by
  obtain ⟨i1, h1⟩ := ix_of (N := N) (x := x1)
  obtain ⟨i2, h2⟩ := ix_of (N := N) (x := x2)
  obtain ⟨i3, h3⟩ := ix_of (N := N) (x := x3)
  have nd := C.nd
  rw [C.nm] at nd
  refine oB (pss_cons (ps_for P.po C.calm (pi_list pE) (pg_tup C.calm (pgs_cons (pgn h1) (pgs_cons (pgn h2) (pgs_cons (pgn h3) pgs_nil)))) pB hs) pB) ?_
  refine sE_mono (fun v H1 h => ?_) q
  obtain ⟨a, xs, e, s, Pv, h0, hl, ht, hd⟩ := h
  refine ⟨a, e, ⟨xs, s⟩, for_list (D := { D with nx := sB X rest D }) Pv h0 hl (fun i v σ' H' hv p => ?_) hd⟩
  obtain ⟨T, u, w, y, e1, e2, σ1, σ2, σ3, pu, pu2, pu3, k⟩ := ht i v σ' H' hv p
  refine ⟨T, [u, w, y], e1, SqT.of e2, rfl, u, [w, y], rfl, w, [y], rfl, y, [], rfl, rfl, ?_⟩
  show sB X body _ (((σ'.set i1 (some u)).set i2 (some w)).set i3 (some y)) H'
  rw [put_ix pu nd h1, put_ix pu2 nd h2, put_ix pu3 nd h3]
  exact k
/-- for i, x in enumerate(a list that stays) -/
theorem b_forE [C : Ck X sc N R S G B] [P : Po X] [m1 : Mm S x1] [m2 : Mm S x2] [n1 : Mm N x1] [n2 : Mm N x2] [mg : Mm G "enumerate"] [mb : Mm B "enumerate"] {k : Nat}
    (q : sE X l σ H fun v H1 => ∃ (a : Addr) (xs : List V), v = .ref a ∧ SqL X.K H1 a xs ∧ ∃ Pv : Nat → St → Hp → Prop, Pv 0 σ H1 ∧ (∀ i σ' H', i ≤ xs.length → Pv i σ' H' → SqL X.K H' a xs) ∧
      (∀ (i : Nat) v σ' H' H'', xs[i]? = some v → Pv i σ' H' → Up H' H'' → ∃ σ1 σ2, Put N σ' x1 (.int i) σ1 ∧ Put N σ1 x2 v σ2 ∧ sB X body (lpE X D rest (Pv (i + 1))) σ2 H'') ∧ ∀ σ' H', Pv xs.length σ' H' → sB X rest D σ' H')
    (hst : starEach [l] X.env = [(false, eval l X.env)] := by rfl) (hs : ∀ x, foldedSetIterable (.Call (.Name "enumerate" pr) [l] [] pc) X.env x = pure x := by intro _; rfl) :
    sB X (.For (.Tuple [.Name x1 q1, .Name x2 q2] k q3) (.Call (.Name "enumerate" pr) [l] [] pc) body [] pos :: rest) D σ H := by
  obtain ⟨i1, h1⟩ := ix_of (N := N) (x := x1)
  obtain ⟨i2, h2⟩ := ix_of (N := N) (x := x2)
  have nd := C.nd
  rw [C.nm] at nd
  refine oB (pss_cons (ps_for P.po C.calm (pi_enum (C.glo _ mg.mem).1 (C.blt _ mb.mem) (pa_cons pE pa_nil hst) hst) (pg_tup C.calm (pgs_cons (pgn h1) (pgs_cons (pgn h2) pgs_nil))) pB hs) pB) ?_
  refine sE_mono (fun v H1 h => ?_) q
  obtain ⟨a, xs, e, s, Pv, h0, hl, ht, hd⟩ := h
  refine ⟨a, xs, by rw [e], s, for_it (D := { D with nx := sB X rest D }) walk_enum Pv h0 hl (fun i v σ' H' H'' hi p y => ?_) hd⟩
  obtain ⟨T, u, w, rfl, nT, rfl, y1, y2⟩ := y
  have e1 : u = .int (i : Nat) := (Option.some.inj y1).symm
  obtain ⟨σ1, σ2, pu, pu2, k⟩ := ht i w σ' H' _ y2 p ⟨Ex.new nT⟩
  subst e1
  refine ⟨T, [.int (i : Nat), w], rfl, SqT.of upd_same, rfl, .int (i : Nat), [w], rfl, w, [], rfl, rfl, ?_⟩
  show sB X body _ ((σ'.set i1 (some (.int (i : Nat)))).set i2 (some w)) _
  rw [put_ix pu nd h1, put_ix pu2 nd h2]
  exact k
/-! ### list methods -/
theorem e_extend (q : sE X a σ H fun v H1 => ∃ l, v = .ref l ∧ (∃ xs, SqL X.K H1 l xs) ∧ sE X e σ H1 fun y H2 => ∃ b xs zs, y = .ref b ∧ H2 l = some (.lst xs) ∧ H2 b = some (.lst zs) ∧ xs.length + zs.length ≤ 100000 ∧ Q .non (upd H2 l (.lst (xs ++ zs))))
    (hbase : attributeBase a "extend" X.env (eval a X.env) = eval a X.env := by rfl) (hfew : ((backTo pc (starEach [e] X.env)).all (fun x => !x.1) && (backToKw pc (keywordEach [] X.env)).all (fun x => x.1.isSome) && decide (([e]).length + ([] : List Keyword).length + (if ([] : List Keyword).isEmpty then 0 else 1) < 30)) = true := by rfl)
    (hline : (p.endLine == pc.line) = true := by rfl) (hs : starEach [e] X.env = (false, eval e X.env) :: starEach [] X.env := by rfl) : sE X (.Call (.Attribute a "extend" p) [e] [] pc) σ H Q := by
  refine oE (pe_bm PySem.F.plainAttrs_list PySem.F.slot_list_extend PySem.F.type_list_extend mt_extend pE (pa_cons pE pa_nil hs) hbase hfew hline hs) ?_
  refine sE_mono (fun v H1 ⟨l, e1, ⟨xs, s⟩, k⟩ => ⟨?_, sE_mono (fun y H2 ⟨b, ys, zs, h0, h1, h2, h3, k2⟩ => ?_) k⟩) q
  · rw [e1]; exact .inl ⟨rfl, xs, s⟩
  · rw [e1, h0]; exact ⟨l, b, ys, zs, rfl, rfl, h1, h2, Evl.sz_of h3, k2⟩
theorem e_clear (q : sE X a σ H fun v H1 => ∃ l xs, v = .ref l ∧ H1 l = some (.lst xs) ∧ Q .non (upd H1 l (.lst []))) (hbase : attributeBase a "clear" X.env (eval a X.env) = eval a X.env := by rfl) (hline : (p.endLine == pc.line) = true := by rfl) : sE X (.Call (.Attribute a "clear" p) [] [] pc) σ H Q := by
  refine oE (pe_bm0 PySem.F.plainAttrs_list PySem.F.slot_list_clear PySem.F.type_list_clear mt_clear pE hbase hline) ?_
  refine sE_mono (fun v H1 ⟨l, xs, e1, h, k⟩ => ⟨?_, ?_⟩) q
  · rw [e1]; exact .inl ⟨rfl, xs, SqL.of h⟩
  · rw [e1]; exact ⟨l, xs, rfl, rfl, h, k⟩
theorem e_reverse (q : sE X a σ H fun v H1 => ∃ l xs, v = .ref l ∧ H1 l = some (.lst xs) ∧ Q .non (upd H1 l (.lst xs.reverse))) (hbase : attributeBase a "reverse" X.env (eval a X.env) = eval a X.env := by rfl) (hline : (p.endLine == pc.line) = true := by rfl) : sE X (.Call (.Attribute a "reverse" p) [] [] pc) σ H Q := by
  refine oE (pe_bm0 PySem.F.plainAttrs_list PySem.F.slot_list_reverse PySem.F.type_list_reverse mt_reverse pE hbase hline) ?_
  refine sE_mono (fun v H1 ⟨l, xs, e1, h, k⟩ => ⟨?_, ?_⟩) q
  · rw [e1]; exact .inl ⟨rfl, xs, SqL.of h⟩
  · rw [e1]; exact ⟨l, xs, rfl, rfl, h, k⟩
theorem e_pop (q : sE X a σ H fun v H1 => ∃ l xs y, v = .ref l ∧ H1 l = some (.lst xs) ∧ xs[xs.length - 1]? = some y ∧ Q y (upd H1 l (.lst xs.dropLast))) (hbase : attributeBase a "pop" X.env (eval a X.env) = eval a X.env := by rfl) (hline : (p.endLine == pc.line) = true := by rfl) : sE X (.Call (.Attribute a "pop" p) [] [] pc) σ H Q := by
  refine oE (pe_bm0 PySem.F.plainAttrs_list PySem.F.slot_list_pop PySem.F.type_list_pop mt_pop pE hbase hline) ?_
  refine sE_mono (fun v H1 ⟨l, xs, y, e1, h, hy, k⟩ => ⟨?_, ?_⟩) q
  · rw [e1]; exact .inl ⟨rfl, xs, SqL.of h⟩
  · rw [e1]; exact ⟨l, xs, y, rfl, rfl, h, hy, k⟩
/-- pop(0) -/
theorem e_pop0 (q : sE X a σ H fun v H1 => ∃ l xs, v = .ref l ∧ (∃ xs, SqL X.K H1 l xs) ∧ sE X e σ H1 fun y H2 => ∃ u, y = .int 0 ∧ H2 l = some (.lst (u :: xs)) ∧ Q u (upd H2 l (.lst xs)))
    (hbase : attributeBase a "pop" X.env (eval a X.env) = eval a X.env := by rfl) (hfew : ((backTo pc (starEach [e] X.env)).all (fun x => !x.1) && (backToKw pc (keywordEach [] X.env)).all (fun x => x.1.isSome) && decide (([e]).length + ([] : List Keyword).length + (if ([] : List Keyword).isEmpty then 0 else 1) < 30)) = true := by rfl)
    (hline : (p.endLine == pc.line) = true := by rfl) (hs : starEach [e] X.env = (false, eval e X.env) :: starEach [] X.env := by rfl) : sE X (.Call (.Attribute a "pop" p) [e] [] pc) σ H Q := by
  refine oE (pe_bm PySem.F.plainAttrs_list PySem.F.slot_list_pop PySem.F.type_list_pop mt_popAt pE (pa_cons pE pa_nil hs) hbase hfew hline hs) ?_
  refine sE_mono (fun v H1 ⟨l, xs, e1, ⟨ys, s⟩, k⟩ => ⟨?_, sE_mono (fun y H2 ⟨u, h0, h1, k2⟩ => ?_) k⟩) q
  · rw [e1]; exact .inl ⟨rfl, ys, s⟩
  · rw [e1, h0]
    exact ⟨l, u :: xs, 0, 0, u, rfl, rfl, h1, by decide, by decide, by unfold seqIndex?; simp, rfl, k2⟩
/-- xs[i] = e -/
theorem b_set (q : sE X e σ H fun v H1 => sE X a σ H1 fun x H2 => sE X b σ H2 fun y H3 => ∃ l xs k, x = .ref l ∧ y = .int ((k : Nat) : Int) ∧ H3 l = some (.lst xs) ∧ k < xs.length ∧ sB X rest D σ (upd H3 l (.lst (xs.set k v))))
    (ha : ∀ v, assign (.Subscript a b p) X.env v = (do
      let ov ← holding [v] (eval a X.env)
      let iv ← holding [v, ov] (eval b X.env)
      standAt p
      holding [v, ov, iv] (setItem ov iv v)
      release [v, ov, iv] []) := by intro _; rfl)
    (hs : swapsWithSole [.Subscript a b p] e pos.line X.env = pure false := by rfl) (hw : swappedStores [.Subscript a b p] e X.env = pure none := by rfl) : sB X (.Assign [.Subscript a b p] e pos :: rest) D σ H := by
  refine oB (pss_cons (ps_asg pE (pg_sub pE pE set_list ha) hs hw) pB) ?_
  refine sE_mono (fun v H1 z => sE_mono (fun x H2 z2 => sE_mono (fun y H3 h => ?_) z2) z) q
  obtain ⟨l, xs, k, e1, e2, h1, h2, k2⟩ := h
  exact ⟨l, xs, (k : Int), k, e1, e2, h1, Evl.ixN_nat h2, k2⟩
/-- xs[::-1] -/
theorem e_rev {k : Nat} {p1 p2 p3 : Pos} (q : sE X a σ H fun x H1 => ∃ l xs, x = .ref l ∧ SqL X.K H1 l xs ∧ ∀ p H', New H1 p (.lst xs.reverse) H' → Q (.ref p) H') : sE X (.Subscript a (.Slice none none (some (.UnaryOp .USub (.Constant (.int 1) k p1) p2)) p3) pos) σ H Q :=
  oE (pe_revL pE) (sE_mono (fun x H1 ⟨l, xs, e, s, k⟩ => ⟨l, xs, e, s, fun p hp => k p _ (New.mk' hp)⟩) q)
theorem x_rev {P : Addr → Hp → Prop} [s : Sq X.K H m xs] (k : ∀ p H', New H p (.lst xs.reverse) H' → P p H') : ∃ l xs, V.ref m = .ref l ∧ SqL X.K H l xs ∧ ∀ p H', New H p (.lst xs.reverse) H' → P p H' := ⟨m, xs, rfl, s.h, k⟩
instance Ints.rev {ns : List Int} [h : Ints xs ns] : Ints xs.reverse ns.reverse := ⟨by rw [h.h, List.map_reverse]⟩
/-- e1, e2 by a name and a comprehension and their like: any two values; a store of what a for's body left -/
theorem x_at {P : Prop} [h : At H m (.lst xs)] (q : P) : (∃ xs, H m = some (.lst xs)) ∧ P := ⟨⟨xs, h.h⟩, q⟩
end
/-! ### the head with one more look -/
def obsZ (fa : List He.Fa) (fn : List He.DefD) (ex : PySem.W.Frag → Bool) (K : PySem.W.Frag) : He.AlD × Bool := (He.obsD fa fn K, ex K)
def obsZG (n : Nat) (fa : List He.Fa) (fn : List He.DefD) (ex : PySem.W.Frag → Bool) (g : Addr → Option Obj) : He.AlD × Bool := obsZ fa fn ex (He.frG g (He.asD g n))
def hookZ (n : Nat) (fa : List He.Fa) (fn : List He.DefD) (ex : PySem.W.Frag → Bool) : PySem.W.Hook where
  α := He.AlD × Bool
  obs := fun s => obsZG n fa fn ex s.heap.get?
  val := fun _ => (He.valD fn, true)
  says := fun _ h => ∃ K : PySem.W.Frag, K.In h ∧ He.SaysD fa fn K ∧ ex K = true
  of := fun _ _ e => ⟨_, He.frG_in, congrArg Prod.fst e, congrArg Prod.snd e⟩
  keeps := fun _ _ _ ⟨K, hK, c⟩ k => ⟨K, PySem.W.Frag.In.keeps hK k, c⟩
theorem obsZG_eq {n : Nat} {fa : List He.Fa} {fn : List He.DefD} {ex : PySem.W.Frag → Bool} {g : Addr → Option Obj} {s : Shared} (h : ∀ a, g a = s.heap.get? a) : obsZG n fa fn ex g = (hookZ n fa fn ex).obs s := by
  have e : g = s.heap.get? := funext h
  rw [e] <;> rfl
/-- what is looked at of an own class x (with the fields F): made plainly, its names; bare: without an __init__ -/
def clsB (K : PySem.W.Frag) (x : Str) : Bool := PySem.W.makesIn K (He.ga K x) && (PySem.W.keepIn K (.ref (He.ga K x)) && (He.eqO (PySem.W.findIn K (.ref (He.ga K x)) "__class__") (some (some (.builtin "object.__class__"))) &&
  (He.eqO (PySem.W.specialIn K (.builtin "object.__class__") "__get__") (some (some (.builtin "getset_descriptor.__get__"))) && (decide (PySem.W.takesIn K (.builtin "object.__class__") = some true) && decide (PySem.W.mroIn K (He.ga K x) (.type "object") = some true)))))
def bareB (K : PySem.W.Frag) (x : Str) : Bool := He.eqO (PySem.W.findIn K (.ref (He.ga K x)) "__init__") (some (some (.builtin "object.__init__")))
theorem clsB_ok {K : PySem.W.Frag} {x : Str} (h : clsB K x = true) : PySem.W.makesIn K (He.ga K x) = true ∧ PySem.W.keepIn K (.ref (He.ga K x)) = true ∧ TiK K (He.ga K x) := by
  obtain ⟨h1, h⟩ := He.ba h
  obtain ⟨h2, h⟩ := He.ba h
  obtain ⟨h3, h⟩ := He.ba h
  obtain ⟨h4, h⟩ := He.ba h
  obtain ⟨h5, h6⟩ := He.ba h
  exact ⟨h1, h2, He.eqO_ok h3, He.eqO_ok h4, of_decide_eq_true h5, of_decide_eq_true h6⟩
theorem bareB_ok {K : PySem.W.Frag} {x : Str} (h : clsB K x = true) (hb : bareB K x = true) : Nk K (He.ga K x) := ⟨(clsB_ok h).1, He.eqO_ok hb, (clsB_ok h).2.1⟩
def kiB (K : PySem.W.Frag) (x y : Str) (b : Bool) : Bool := decide (PySem.W.kitOne K (.ref (He.ga K x)) (.ref (He.ga K y)) = some b)
end L2.Z
namespace L2.Z
open PySem PySem.Spec PyProof.Rows
open Evl (Ex)
/-! ### comprehensions whose elements are new objects of any kind -/
class NewOs (H : Hp) (D : Addr) (rs : List Addr) (os : List HO) (H' : Hp) : Prop where
  ex : Ex H H'
  top : H' D = some (.lst (rs.map V.ref))
  row : Paired (fun r o => H' r = some o) rs os
  fd : H D = none
  fr : ∀ r ∈ rs, H r = none
  nd : rs.Nodup
  ni : D ∉ rs
def TurnO (X : Cx) (sc : Scope) (N R S G B : List Str) (elt : Expr) (ifs : List Expr) (σ2 : St) (Hc : Hp) (p : Bool) (c : HO) : Prop :=
  ∀ X', Sub X X' → Ck X' sc N R S G B → sTs X' ifs σ2 Hc fun b H3 => Ex Hc H3 ∧ b = p ∧ (b = true → ∀ X', Sub X X' → Ck X' sc N R S G B → sE X' elt σ2 H3 fun y H4 => ∃ r, y = .ref r ∧ Hc r = none ∧ Ex Hc H4 ∧ H4 r = some c)
section
variable {X : Cx} {sc : Scope} {N R S G B : List Str} {σ : St} {H H1 : Hp} {Q : VK} {elt : Expr} {ifs : List Expr} {J : It} {Gd : Hp → Prop} {Y : Nat → Hp → V → Hp → Prop} {vs : List Nat} {g : TG} {α : Type}
theorem pair_someO {rs : List Addr} {os : List HO} (h : Paired (fun r o => H r = some o) rs os) : ∀ r ∈ rs, ∃ o, H r = some o := fun r hr => by
  obtain ⟨y, _, q⟩ := pair_mem h hr
  exact ⟨_, q⟩
theorem askO {as : List α} {st : α → St} (s : SrcOk σ H1 J Gd Y vs g as st) (p : α → Bool) (f : α → HO)
    (turn : ∀ a, a ∈ as → ∀ Hc, Ex H1 Hc → TurnO X sc N R S G B elt ifs (st a) Hc (p a) (f a))
    (done : ∀ D rs H', NewOs H1 D rs ((as.filter p).map f) H' → Q (.ref D) H') :
    LcAsk X sc N R S G B vs g elt ifs σ J H1 Q as.length Gd Y (fun i acc Hh => ∃ rs, acc = rs.map V.ref ∧ Ex H1 Hh ∧ rs.Nodup ∧ (∀ r ∈ rs, H1 r = none) ∧ Paired (fun r o => Hh r = some o) rs (((as.take i).filter p).map f)) where
  wk := s.wk
  r0 := ⟨[], rfl, Ex.refl _, List.nodup_nil, fun _ h => by simp at h, by simpa using Paired.nil⟩
  gd := fun i acc Hh H ⟨rs, _, h, _⟩ e => s.gd H (h.trans e)
  len := fun i acc Hh ⟨rs, h, _, _, _, h5⟩ hi => by
    rw [h, List.length_map, Paired.length h5]
    exact Nat.le_trans filt_len (by have := s.len; omega)
  yx := fun i H x H' _ h => s.yx i H x H' h
  turn := fun i acc Hh H x H' hi r e y => by
    obtain ⟨rs, ra, re, nd, nf, pr⟩ := r
    obtain ⟨a, ha, hm⟩ := get_lt hi
    refine s.hy i a H x H' ha (re.trans e) y _ fun H2 e2 => ⟨s.hw a, e2, fun X' sb c => ?_⟩
    refine ⟨fun pins s' I => thn ((turn a hm H2 ((re.trans e).trans e2) X' sb c).run pins s' I) fun b s3 ⟨H3, I3, e3, hb, q3⟩ => ⟨H3, I3, ?_⟩⟩
    cases b with
    | true =>
      rw [if_pos rfl]
      refine fun X2 s2 c2 => sE_mono (fun y H4 ⟨r, ey, hr, e5, h4⟩ => ⟨e2.trans e5, fun G4 eg en => ⟨rs ++ [r], ?_, re.trans eg, ?_, ?_, ?_⟩⟩) (q3 rfl X2 s2 c2)
      · rw [ra, ey, List.map_append]; rfl
      · refine List.nodup_append.mpr ⟨nd, by simp, fun u hu v hv z => ?_⟩
        obtain ⟨o, ho⟩ := pair_someO pr u hu
        have hv' : v = r := by simpa using hv
        have := (e.trans e2) u o ho
        rw [z, hv', hr] at this
        cases this
      · intro u hu
        rcases List.mem_append.mp hu with hu | hu
        · exact nf u hu
        · have hv' : u = r := by simpa using hu
          rw [hv']
          exact Evl.fresh_back ((re.trans e).trans e2) hr
      · rw [take_snoc ha, filter_snoc, ← hb, if_pos rfl]
        exact pair_snoc (pair_mono (fun _ _ q => eg _ _ q) pr) (en r _ (Evl.fresh_back e2 hr) h4)
    | false =>
      rw [if_neg Bool.false_ne_true]
      refine ⟨e2.trans e3, fun G4 eg _ => ⟨rs, ?_, re.trans eg, nd, nf, ?_⟩⟩
      · simpa using ra
      · rw [take_snoc ha, filter_snoc, ← hb, if_neg Bool.false_ne_true]
        simpa using pair_mono (fun _ _ q => eg _ _ q) pr
  done := fun acc D H' nw ⟨Hh, ⟨rs, h1, h2, h3, h4, h5⟩, h6, h7, h8⟩ => by
    rw [List.take_length] at h5
    refine done D rs H' ⟨nw.ex, by rw [nw.at_, h1], pair_mono (fun _ _ q => h6 _ _ q) h5, nw.fr, h4, h3, fun hD => ?_⟩
    obtain ⟨o, ho⟩ := pair_someO h5 D hD
    rw [h8] at ho
    cases ho
end
section
variable {X : Cx} {sc scope : Scope} {N R S G B R' G' S' : List Str} {σ σ2 : St} {H H1 Hc H' H4 : Hp} {Q : VK} {x0 : Str} {elt : Expr} {ifs : List Expr} {i0 n : Nat} {A D r : Addr} {xs : List V} {o : HO} {α : Type} {rs : List Addr} {os : List HO}
theorem to0 (k : ∀ X', Sub X X' → Ck X' sc N R' S' G' B → sE X' elt σ2 Hc fun y H4 => ∃ r, y = .ref r ∧ Hc r = none ∧ Ex Hc H4 ∧ H4 r = some o) : TurnO X sc N R' S' G' B elt [] σ2 Hc true o := fun X' s c => ts_nil ⟨Ex.refl _, rfl, fun _ X2 s2 c2 => k X2 s2 c2⟩
theorem x_endO {c : HO} [e : Exs Hc H4] (f : Hc r = none) [h : At H4 r o] (ho : o = c) : ∃ r', V.ref r = .ref r' ∧ Hc r' = none ∧ Ex Hc H4 ∧ H4 r' = some c := ⟨r, rfl, f, e.ex, by rw [h.h, ho]⟩
theorem lcLO (as : List α) (gx : α → V) (pp : α → Bool) (f : α → HO) [C : Ck X sc N R S G B] [s : Sq X.K H1 A xs] (hi : N[i0]? = some x0) (hx : xs = as.map gx) (hl : as.length ≤ 40000)
    (turn : ∀ a, a ∈ as → ∀ Hc, Up H1 Hc → ∃ σ2, Put N σ x0 (gx a) σ2 ∧ TurnO X (relS scope sc) N R' [x0] G' B elt ifs σ2 Hc (pp a) (f a))
    (done : ∀ D rs H', NewOs H1 D rs ((as.filter pp).map f) H' → Q (.ref D) H') : lcQ X (relS scope sc) N R' [x0] G' B [i0] (gName i0) elt ifs σ (Itl X.K A) H1 Q := by
  have nd := C.nd
  rw [C.nm] at nd
  refine ⟨_, _, _, _, askO (src_list as gx hx s.h hl) pp f (fun a ha Hc e => ?_) done⟩
  obtain ⟨σ2, pu, k⟩ := turn a ha Hc ⟨e⟩
  rw [pu.eq nd hi] at k
  exact k
theorem lcRO0 (pp : Nat → Bool) (f : Nat → HO) [C : Ck X sc N R S G B] (hi : N[i0]? = some x0) (hl : n ≤ 40000)
    (turn : ∀ k, k < n → ∀ Hc, Up H1 Hc → ∃ σ2, Put N σ x0 (.int (k : Nat)) σ2 ∧ TurnO X (relS scope sc) N R' [x0] G' B elt ifs σ2 Hc (pp k) (f k))
    (done : ∀ D rs H', NewOs H1 D rs (((List.range n).filter pp).map f) H' → Q (.ref D) H') : lcQ X (relS scope sc) N R' [x0] G' B [i0] (gName i0) elt ifs σ (Itr 0 n) H1 Q := by
  have nd := C.nd
  rw [C.nm] at nd
  refine ⟨_, _, _, _, askO (src_range hl) pp f (fun a ha Hc e => ?_) done⟩
  obtain ⟨σ2, pu, k⟩ := turn a (List.mem_range.mp ha) Hc ⟨e⟩
  rw [pu.eq nd hi] at k
  rw [Int.zero_add]
  exact k
set_option synthInstance.checkSynthOrder false in
instance Up.newOs [n : NewOs H D rs os H'] : Up H H' := ⟨n.ex⟩
theorem NewOs.pre {H0 : Hp} (n : NewOs H D rs os H') (e : Ex H0 H) : NewOs H0 D rs os H' := ⟨e.trans n.ex, n.top, n.row, Evl.fresh_back e n.fd, fun r hr => Evl.fresh_back e (n.fr r hr), n.nd, n.ni⟩
def tupO (p : Int × Int) : HO := .tup [.int p.1, .int p.2]
theorem NewOs.lp {ps : List (Int × Int)} (n : NewOs H D rs (ps.map tupO) H') : LP H' D rs ps := ⟨n.top, pair_map (F := fun r o => H' r = some o) (f := tupO) n.row⟩
/-- two lists of pairs put together -/
theorem LP.cat {l m p : Addr} {ts ts' : List Addr} {ps ps' : List (Int × Int)} (h : LP H l ts ps) (h' : LP H m ts' ps') (n : New H p (.lst (ts.map V.ref ++ ts'.map V.ref)) H') : LP H' p (ts ++ ts') (ps ++ ps') :=
  ⟨by rw [n.at_, List.map_append], pair_mono (fun _ _ q => n.ex _ _ q) (pair_append h.row h'.row)⟩
theorem LP.tk {k : Nat} {l p : Addr} {ts : List Addr} {ps : List (Int × Int)} (h : LP H l ts ps) (n : New H p (.lst ((ts.map V.ref).take k)) H') : LP H' p (ts.take k) (ps.take k) :=
  ⟨by rw [n.at_, List.map_take], pair_mono (fun _ _ q => n.ex _ _ q) (pair_take k h.row)⟩
theorem LP.len {l : Addr} {ts : List Addr} {ps : List (Int × Int)} (h : LP H l ts ps) : ts.length = ps.length := Paired.length h.row
/-- pairs written out -/
class RowsP (H : Hp) (vs : List V) (ts : outParam (List Addr)) (ps : outParam (List (Int × Int))) : Prop where
  top : vs = ts.map V.ref
  row : Paired (fun t (p : Int × Int) => H t = some (.tup [.int p.1, .int p.2])) ts ps
instance : RowsP H [] [] [] := ⟨rfl, .nil⟩
instance {a : Addr} {i j : Int} {vs : List V} {ts : List Addr} {ps : List (Int × Int)} [h : At H a (.tup [.int i, .int j])] [t : RowsP H vs ts ps] : RowsP H (.ref a :: vs) (a :: ts) ((i, j) :: ps) := ⟨by rw [t.top]; rfl, .cons h.h t.row⟩
instance (priority := low) LP.ofRows {a : Addr} {vs : List V} {ts : List Addr} {ps : List (Int × Int)} [h : At H a (.lst vs)] [t : RowsP H vs ts ps] : LP H a ts ps := ⟨by rw [h.h, t.top], t.row⟩
/-- != of [n, list] and [n', list'] -/
theorem y_neNL {K : PySem.W.Frag} {a b c d : Addr} {n n' : Int} {ys zs : List V} {ws us : List Int} [h1 : At H a (.lst [.int n, .ref c])] [h2 : At H c (.lst ys)] [z1 : Ints ys ws] [h3 : At H b (.lst [.int n', .ref d])] [h4 : At H d (.lst zs)] [z2 : Ints zs us]
    (q : Q (.bl (!(decide (n = n') && decide (ws = us)))) H) : rNe' K (.ref a) (.ref b) H Q := by
  have dc : Dp K H (.ref c) (PySem.W.Datum.toD ws) := dv_li (by rw [h2.h, z1.h])
  have dd : Dp K H (.ref d) (PySem.W.Datum.toD us) := dv_li (by rw [h4.h, z2.h])
  refine x_neP (d := .list [.int n, PySem.W.Datum.toD ws]) (e := .list [.int n', PySem.W.Datum.toD us]) (.lst (SqL.of h1.h) (.cons (.int n) (.cons dc .nil))) (.lst (SqL.of h3.h) (.cons (.int n') (.cons dd .nil))) ?_ ?_ ?_ ?_
  · simp only [PyData.plain, PyData.plainAll, PySem.W.Datum.plain, Bool.and_self]
  · simp only [PyData.plain, PyData.plainAll, PySem.W.Datum.plain, Bool.and_self]
  · have h := PySem.W.Datum.depth_le ws
    have e : PySem.W.Datum.depth (List Int) ≤ 10 := by decide
    simp only [PyData.depth, PyData.depthAll]
    omega
  · have e : PyData.eqv (.list [.int n, PySem.W.Datum.toD ws]) (.list [.int n', PySem.W.Datum.toD us]) = (decide (n = n') && decide (ws = us)) := by
      simp only [PyData.eqv, PyData.eqvAll, Bool.and_true]
      have e1 : PyData.eqv (.int n) (.int n') = decide (n = n') := PySem.W.Datum.eqv (α := Int) n n'
      have e2 : PyData.eqv (PySem.W.Datum.toD ws) (PySem.W.Datum.toD us) = decide (ws = us) := PySem.W.Datum.eqv (α := List Int) ws us
      rw [e2]
      simp only [PyData.eqv] at e1
      rw [e1]
    rw [e]
    exact q
end
section
variable {H0 H H1 H' : Hp} {d D : Addr} {rs rs' : List Addr} {os os' : List HO}
theorem NewOs.nil (n : New H d (.lst []) H') : NewOs H d [] [] H' := ⟨n.ex, n.at_, .nil, n.fr, fun _ h => by simp at h, List.nodup_nil, by simp⟩
theorem pair_updO {o : HO} : ∀ {rs : List Addr} {os : List HO}, Paired (fun r o => H r = some o) rs os → d ∉ rs → Ex H H' → Paired (fun r o' => upd H' d o r = some o') rs os
  | _, _, .nil, _, _ => .nil
  | _, _, .cons h t, ni, e => .cons (by rw [upd_ne (fun z => ni (by rw [z]; exact List.Mem.head _))]; exact e _ _ h) (pair_updO t (fun z => ni (List.Mem.tail _ z)) e)
/-- new objects come to the list at d (extend) -/
theorem NewOs.ext (n : NewOs H0 d rs os H) (e : Ex H H1) (n' : NewOs H1 D rs' os' H') : NewOs H0 d (rs ++ rs') (os ++ os') (upd H' d (.lst (rs.map V.ref ++ rs'.map V.ref))) := by
  have hd : H1 d = some _ := e _ _ n.top
  have nd' : d ∉ rs' := fun z => by have := n'.fr d z; rw [hd] at this; cases this
  refine ⟨Ex.mut ((n.ex.trans e).trans n'.ex) n.fd, by rw [upd_same, List.map_append], pair_append (pair_updO n.row n.ni (e.trans n'.ex)) (pair_updO n'.row nd' (Ex.refl _)), n.fd, ?_, ?_, ?_⟩
  · intro r hr
    rcases List.mem_append.mp hr with hr | hr
    · exact n.fr r hr
    · exact Evl.fresh_back (n.ex.trans e) (n'.fr r hr)
  · refine List.nodup_append.mpr ⟨n.nd, n'.nd, fun a ha b hb z => ?_⟩
    obtain ⟨o, ho⟩ := pair_someO n.row a ha
    have := n'.fr b hb
    rw [← z, e _ _ ho] at this
    cases this
  · intro z
    rcases List.mem_append.mp z with z | z
    · exact n.ni z
    · exact nd' z
theorem NewOs.len (n : NewOs H0 d rs os H) : rs.length = os.length := Paired.length n.row
theorem NewOs.post (n : NewOs H0 d rs os H) (e : Ex H H') : NewOs H0 d rs os H' := ⟨n.ex.trans e, e _ _ n.top, pair_mono (fun _ _ q => e _ _ q) n.row, n.fd, n.fr, n.nd, n.ni⟩
end
section
variable {X : Cx} {sc : Scope} {N R S G B : List Str} {σ σ' σ2 : St} {H : Hp} {x1 x2 : Str} {pos q1 q2 q3 : Pos} {e : Expr} {D : Ends} {rest : List Stmt}
/-- a, b = e1, e2 where one of the names is no plain local: a tuple comes between -/
theorem b_tupW [C : Ck X sc N R S G B] [m1 : Mm S x1] [m2 : Mm S x2] [n1 : Mm N x1] [n2 : Mm N x2] {k : Nat} (hw : swappedStores [.Tuple [.Name x1 q1, .Name x2 q2] k q3] e (envOf sc) = pure none)
    (q : sE X e σ H fun v H1 => ∃ (a : Addr) (u w : V), v = .ref a ∧ SqT X.K H1 a [u, w] ∧ ∃ σ1 σ2, Put N σ x1 u σ1 ∧ Put N σ1 x2 w σ2 ∧ sB X rest D σ2 H1)
    (hs : swapsWithSole [.Tuple [.Name x1 q1, .Name x2 q2] k q3] e pos.line X.env = pure false := by rfl) : sB X (.Assign [.Tuple [.Name x1 q1, .Name x2 q2] k q3] e pos :: rest) D σ H :=
  b_tup2 q hs ((sw_env C.sc).trans hw)
end
section
variable {X : Cx} {σ : St} {H : Hp} {Q : VK} {i : Int} {l : Addr} {K : PySem.W.Frag} {xs : List V} {ns : List Int}
/-- xs[-1] -/
theorem y_ixLast [h : At H l (.lst xs)] [z : Ints xs ns] (ne : ns ≠ []) (q : Q (.int (ns.getLast ne)) H) : rIxLT K (.ref l) (.int (-1)) H Q := by
  refine x_ixA h.h ?_ q
  rw [z.h]
  have e : ns.map V.int = ns.dropLast.map V.int ++ [V.int (ns.getLast ne)] := by
    rw [← List.map_singleton, ← List.map_append, List.dropLast_concat_getLast]
  rw [e]
  exact atI_last _ _
end
section
variable {X : Cx} {σ : St} {H : Hp} {Q : VK} {e : Expr} {b : Bool}
/-- a and b, as a value w that leaves the heap alone -/
theorem ite_val (w : V) (k : Q w H) (h : if b = true then sE X e σ H (fun v H1 => v = w ∧ H1 = H) else V.bl false = w) : if b = true then sE X e σ H Q else Q (.bl false) H := by
  cases b with
  | true => exact sE_mono (fun v H1 ⟨e1, e2⟩ => by rw [e1, e2]; exact k) h
  | false => rw [if_neg Bool.false_ne_true] at h ⊢; rw [h]; exact k
theorem map_head {ns : List Int} (h : ns ≠ []) : (ns.map V.int)[0]? = some (.int (ns.head h)) := by
  cases ns with
  | nil => exact absurd rfl h
  | cons x r => rfl
end
end L2.Z
/-! sorted, of lists of whole numbers -/
namespace IlS
open PySem PySem.W PySem.Calls PyProof.Rows Srt PySem.SeqAt
theorem first_succ {e r : Nat → Bool} {fin : Bool} : ∀ l : List Nat, firstLt e r fin (l.map Nat.succ) = firstLt (fun j => e (j + 1)) (fun j => r (j + 1)) fin l
  | [] => rfl
  | j :: t => by
    show (if e (j + 1) = true then firstLt e r fin (t.map Nat.succ) else r (j + 1)) = _
    rw [first_succ t]
    rfl
theorem first_lex : ∀ ns ms : List Int, firstLt (fun j => decide (ns.getD j 0 = ms.getD j 0)) (fun j => decide (ns.getD j 0 < ms.getD j 0)) (decide (ns.length < ms.length)) (List.range (min ns.length ms.length)) = HT.lexLt ns ms
  | [], [] => rfl
  | [], y :: ms => by
    rw [show min ([] : List Int).length (y :: ms).length = 0 by simp]
    show decide _ = true
    simp
  | x :: ns, [] => by
    rw [show min (x :: ns).length ([] : List Int).length = 0 by simp]
    show decide _ = false
    simp
  | x :: ns, y :: ms => by
    rw [show min (x :: ns).length (y :: ms).length = min ns.length ms.length + 1 by simp, List.range_succ_eq_map, HT.lexLt_cons]
    show (if decide (x = y) = true then firstLt _ _ _ _ else decide (x < y)) = _
    by_cases h : x = y
    · rw [if_pos (decide_eq_true h), if_pos h, first_succ, ← first_lex ns ms]
      rw [show decide ((x :: ns).length < (y :: ms).length) = decide (ns.length < ms.length) by simp]
      rfl
    · rw [if_neg (by rw [decide_eq_false h]; decide), if_neg h]
def IsIl (h : Heap) (v : Value) (ns : List Int) : Prop := ∃ (a : Addr) (items : Array Value), v = .ref a ∧ h.IsList a items ∧ IntsAre items.toList ns
theorem IsIl.keeps {h h' : Heap} {v : Value} {ns : List Int} (x : IsIl h v ns) (k : ∀ b o, v = .ref b → h.get? b = some o → h'.get? b = some o) : IsIl h' v ns := by
  obtain ⟨a, items, e, ⟨o, g, q⟩, i⟩ := x
  exact ⟨a, items, e, ⟨o, k _ _ e g, q⟩, i⟩
theorem IsIl.type {M : Model} {h : Heap} {v : Value} {ns : List Int} (x : IsIl h v ns) : Looks M h (typeOf v) (.type "list") := by
  obtain ⟨a, items, rfl, ⟨o, g, c, q⟩, i⟩ := x
  obtain ⟨cls, dd, data, sl⟩ := o
  simp only at c
  subst c
  exact (Looks.ld g).andThen .now
theorem ints_at : ∀ {vs : List Value} {ns : List Int}, IntsAre vs ns → ∀ j (h : j < vs.length), ∃ t, vs[j] = .int (ns.getD j 0) t
  | _, _, .nil, j, h => by simp at h
  | _, _, .cons a t r, 0, h => ⟨t, rfl⟩
  | _, _, .cons a t r, j + 1, h => by
    obtain ⟨u, e⟩ := ints_at r j (by simpa using h)
    exact ⟨u, by simpa using e⟩
section
variable {prog : Program} {w : World} {A : Around} {E : Value → Shared → Prop} {s : Shared}
theorem lt_il {v u : Value} {ns ms : List Int} {Q : Bool → Shared → Prop} (hu : A.units < cLine) (hv : IsIl s.heap v ns) (hw : IsIl s.heap u ms) (h : Q (HT.lexLt ns ms) s) : wpAny (model prog w) A (keyLt' oneType' v u) Q E s := by
  have tv : Looks (model prog w) s.heap (typeOf v) (.type "list") := hv.type
  obtain ⟨a, items, rfl, ga, ia⟩ := hv
  obtain ⟨b, items2, rfl, gb, ib⟩ := hw
  rw [keyLt'_oneType, oneLt'_eq]
  simp only [if_true]
  refine wpAny_bind (wpAny_cRoomFor hu ?_)
  have hT : s.TypeIs (.ref a) "list" := by
    obtain ⟨o, g, c, q⟩ := ga
    exact ⟨o, g, c⟩
  have z1 : items.size = ns.length := by rw [← ia.length]; simp
  have z2 : items2.size = ms.length := by rw [← ib.length]; simp
  refine wpAny_bind (wpAny_callSpecialIfBound?_slot (T := "list") hT F.slot_list_lt (call_list_lt (e := fun j => decide (ns.getD j 0 = ms.getD j 0)) (r := fun j => decide (ns.getD j 0 < ms.getD j 0)) ga gb (fun j h1 h2 => ?_) (fun j h1 h2 _ => ?_) ?_))
  · obtain ⟨t, e⟩ := ints_at ia j (by simpa using h1)
    obtain ⟨u, e'⟩ := ints_at ib j (by simpa using h2)
    have e1 : items[j] = .int (ns.getD j 0) t := by rw [← e]; simp
    have e2 : items2[j] = .int (ms.getD j 0) u := by rw [← e']; simp
    rw [e1, e2]
    have b : decide (ns.getD j 0 = ms.getD j 0) = (ns.getD j 0 == ms.getD j 0) := rfl
    show SeqAt.EqAt _ _ _ _ (decide (ns.getD j 0 = ms.getD j 0))
    rw [b]
    exact SeqAt.EqAt.int_int _ t _ u
  · obtain ⟨t, e⟩ := ints_at ia j (by simpa using h1)
    obtain ⟨u, e'⟩ := ints_at ib j (by simpa using h2)
    have e1 : items[j] = .int (ns.getD j 0) t := by rw [← e]; simp
    have e2 : items2[j] = .int (ms.getD j 0) u := by rw [← e']; simp
    rw [e1, e2]
    exact fun prog w E Q h => HT.rcLt_int _ _ _ _ _ _ prog w E Q h
  · rw [z1, z2, first_lex]
    exact wpAny_truthy_bool h
theorem il_cmp {vs : List Value} {k : Value → List Int} (hu : A.units < cLine) (hv : ∀ v ∈ vs, IsIl s.heap v (k v)) : SrtO.Cmp prog w A s oneType' (fun p => p.1 ∈ vs) (SrtO.lt2 fun v u => HT.lexLt (k v) (k u)) := by
  intro p q hp hq
  exact lt_il (Q := fun r s' => s' = s ∧ r = HT.lexLt (k p.1) (k q.1)) (E := fun _ _ => False) hu (hv p.1 hp) (hv q.1 hq) ⟨rfl, rfl⟩
theorem il_sortable {a : Addr} {vs : List Value} {k : Value → List Int} (h2 : 2 ≤ vs.length) (hu : A.units < cLine) (hv : ∀ v ∈ vs, IsIl s.heap v (k v)) (ha : ∀ v ∈ vs, v ≠ .ref a) :
    SrtO.SortableO prog w A s a vs fun v u => HT.lexLt (k v) (k u) := by
  intro h' keep
  have hv' : ∀ v ∈ vs, IsIl h' v (k v) := fun v hm => (hv v hm).keeps fun b o e g => keep b o (fun z => ha v hm (by rw [e, z])) g
  refine ⟨oneType', fun Q E hq => ?_, il_cmp (s := { s with heap := h' }) hu hv'⟩
  exact kas_kind (s := { s with heap := h' }) (T := .type "list") h2 (fun v hm => (hv' v hm).type) (by rfl) (by simp) hq
theorem sorted_il {l : Addr} {vs : List Value} {k : Value → List Int} {Q : Value → Shared → Prop} (hu : A.units + 64 < cLine) (hl : s.heap.IsList l vs.toArray) (hz : vs.length ≤ sizeLine) (hp : ∀ v ∈ vs, IsIl s.heap v (k v))
    (h : ∀ (h' : Heap) (d : Addr) (out : List Value), SrtO.Srtd (fun v u => HT.lexLt (k v) (k u)) out → SrtO.Stb (fun v u => HT.lexLt (k v) (k u)) out vs → (∀ b o, s.heap.get? b = some o → h'.get? b = some o) → s.heap.objs.size ≤ d → (∃ n, h'.get? d = some (seqObj "list" out.toArray n)) → Q (.ref d) { s with heap := h' }) :
    wpAny (model prog w) A (call (.builtin "sorted") [.ref l]) Q E s := by
  refine SrtO.sorted_ord (NtL.swo_lexL k) hl hz (fun h2 h₁ a ha kk => ?_) fun out hs hb => ?_
  · refine il_sortable (s := { s with heap := h₁ }) h2 (by simp only [Around.in1_units]; omega) (fun v hm => (hp v hm).keeps fun b o _ e => (kk b o e).2) fun v hm z => ?_
    obtain ⟨b, items, e, ⟨o, g, _⟩, _⟩ := hp v hm
    exact (kk b o g).1 (by rw [e] at z; exact Value.ref.inj z)
  · exact h _ _ out hs hb (fun b o e => sortedAll_old e) (Nat.le_succ _) (sortedAll_at s.heap vs out.toArray)
end
end IlS
namespace L2.Z
open PySem PySem.Spec PyProof.Rows
open Evl (Ex)
/-- sorted(xs), xs lists of whole numbers -/
def rSortedLL (K : PySem.W.Frag) : List V → Hp → VK → Prop := fun vs H Q => ∃ (a : Addr) (xs : List V) (k : V → List Int), vs = [V.ref a] ∧ SqL K H a xs ∧ (∀ x ∈ xs, ∃ t, x = V.ref t ∧ H t = some (.lst ((k x).map V.int))) ∧
  ∀ ys p, SrtO.Srtd (fun x y => HT.lexLt (k x) (k y)) ys → SrtO.Stb (fun x y => HT.lexLt (k x) (k y)) ys xs → H p = none → Q (.ref p) (upd H p (.lst ys))
theorem cr_sortedLL {X : Cx} [hu : Ru X] : CallR X (.builtin "sorted") (rSortedLL X.K) := by
  intro pins s σ H vs us Q I r h
  obtain ⟨a, xs, k, rfl, hs, hx, q⟩ := h
  obtain ⟨its, rv, hl, hz⟩ := I.list hs
  obtain ⟨u, rfl, ru⟩ := vals1 r
  obtain rfl : u = Value.ref a := ru
  obtain ⟨e1, e2⟩ := refs_back rv fun x m => by
    obtain ⟨t, e, _⟩ := hx x m
    exact ⟨t, e⟩
  refine IlS.sorted_il (k := fun u => k (backV u)) hu.ru hl.isList (by rw [← rv.length]; exact hz) (fun v hv => ?_) fun h' d out h1 h2 kp hd hn => ?_
  · obtain ⟨t, rfl⟩ := e2 v hv
    have hm : V.ref t ∈ xs := by rw [e1]; exact List.mem_map.mpr ⟨_, hv, rfl⟩
    obtain ⟨t', e, ht⟩ := hx _ hm
    cases e
    obtain ⟨_, its2, n, r2, ho⟩ := I.hok _ _ ht
    exact ⟨t, _, rfl, ⟨_, ho, rfl, _, rfl⟩, show IntsAre _ (k (V.ref t)) by simpa using intsAre_of r2⟩
  · have h3 : ∀ u ∈ out, ∃ a, u = Value.ref a := fun u hu => e2 u (h2.perm.mem_iff.mp hu)
    obtain ⟨n, hn⟩ := hn
    have hb : SrtO.Stb (fun x y => HT.lexLt (k x) (k y)) (out.map backV) xs := by
      rw [e1]
      exact SrtO.Stb.map (lt := fun x y => HT.lexLt (k x) (k y)) (NtL.swo_lexL k) backV h2
    refine ⟨.ref d, upd H d (.lst (out.map backV)), I.laid (t' := s.toks) kp hd ⟨?_, out, n, vals_back h3, hn⟩, rfl, q _ d (SrtO.srtd_map (lt := fun x y => HT.lexLt (k x) (k y)) h1) hb (I.hok.fresh hd)⟩
    rw [hb.len]
    exact hz
end L2.Z
namespace L2.Z
open PySem PySem.Spec PyProof.Rows
open Evl (Ex)
/-! ### sorted(cards): cards in order -/
def vI : V → Int
  | .int i => i
  | _ => 0
def vA : V → Addr
  | .ref a => a
  | _ => 0
def rowC (H : Hp) (x : V) : List Int := match H (vA x) with
  | some (.lst vs) => vs.map vI
  | _ => []
theorem rowC_at {H : Hp} {t : Addr} {c : List Int} (h : H t = some (.lst (c.map V.int))) : rowC H (.ref t) = c := by
  unfold rowC
  show (match H t with | some (.lst vs) => vs.map vI | _ => []) = c
  rw [h]
  show (c.map V.int).map vI = c
  rw [List.map_map]
  exact (List.map_congr_left fun _ _ => rfl).trans (List.map_id c)
theorem rowC_all {H : Hp} : ∀ {rs : List Addr} {cs : List (List Int)}, Paired (fun r c => H r = some (.lst (c.map V.int))) rs cs → (rs.map V.ref).map (rowC H) = cs
  | _, _, .nil => rfl
  | _, _, .cons h t => by rw [List.map_cons, List.map_cons, rowC_at h, rowC_all t]
theorem rows_of {H : Hp} : ∀ {ys : List V}, (∀ y ∈ ys, ∃ t, y = .ref t ∧ H t = some (.lst ((rowC H y).map V.int))) → ys = (ys.map vA).map V.ref ∧ Paired (fun r c => H r = some (.lst (c.map V.int))) (ys.map vA) (ys.map (rowC H))
  | [], _ => ⟨rfl, .nil⟩
  | y :: ys, h => by
    obtain ⟨t, e, q⟩ := h y List.mem_cons_self
    obtain ⟨e', p'⟩ := rows_of fun z hz => h z (List.mem_cons_of_mem _ hz)
    subst e
    refine ⟨?_, .cons q p'⟩
    rw [List.map_cons, List.map_cons, ← e']
    rfl
section
variable {X : Cx} {sc : Scope} {N R S G B : List Str} {σ : St} {H : Hp} {Q : VK} {e : Expr} {p pos : Pos}
theorem e_sortedLL [C : Ck X sc N R S G B] [hu : Ru X] [m : Mm G "sorted"] [mb : Mm B "sorted"] (q : sE X e σ H fun v H1 => ∃ (a : Addr) (rs : List Addr) (cs : List (List Int)), v = .ref a ∧ LL H1 a rs cs ∧ ∀ (p : Addr) (rs' : List Addr) (cs' : List (List Int)) (H' : Hp), New H1 p (.lst (rs'.map V.ref)) H' → LL H' p rs' cs' → cs'.Perm cs → cs'.Pairwise (fun x y => HT.lexLt y x = false) → Q (.ref p) H')
    (he : starEach [e] X.env = (false, eval e X.env) :: starEach [] X.env := by rfl) (hpl : (backTo pos (starEach [] X.env)).any (·.1) = false := by rfl) : sE X (.Call (.Name "sorted" p) [e] [] pos) σ H Q := by
  refine e_callB (r := rSortedLL X.K) cr_sortedLL boot_sorted ?_ he hpl
  refine a_cons ?_ he
  refine sE_mono (fun v H1 h => ?_) q
  obtain ⟨a, rs, cs, rfl, ll, k⟩ := h
  refine a_nil ?_
  refine ⟨a, rs.map V.ref, rowC H1, rfl, SqL.of ll.top, fun x hx => ?_, fun ys p1 hs hb hp => ?_⟩
  · obtain ⟨t, ht, rfl⟩ := List.mem_map.mp hx
    obtain ⟨c, _, h⟩ := pair_mem ll.row ht
    exact ⟨t, rfl, by rw [rowC_at h]; exact h⟩
  · have hy : ∀ y ∈ ys, ∃ t, y = .ref t ∧ H1 t = some (.lst ((rowC H1 y).map V.int)) := fun y hy => by
      have hx := hb.perm.mem_iff.mp hy
      obtain ⟨t, ht, rfl⟩ := List.mem_map.mp hx
      obtain ⟨c, _, h⟩ := pair_mem ll.row ht
      exact ⟨t, rfl, by rw [rowC_at h]; exact h⟩
    obtain ⟨e1, e2⟩ := rows_of hy
    have n : New H1 p1 (.lst ((ys.map vA).map V.ref)) (upd H1 p1 (.lst ys)) := by
      rw [← e1]
      exact New.mk' hp
    refine k p1 (ys.map vA) (ys.map (rowC H1)) _ n ⟨n.at_, pair_mono (fun _ _ q => n.ex _ _ q) e2⟩ ?_ (List.pairwise_map.mpr hs)
    have p2 := hb.perm.map (rowC H1)
    rw [rowC_all ll.row] at p2
    exact p2
end
theorem lex_anti : ∀ xs ys : List Int, HT.lexLt xs ys = false → HT.lexLt ys xs = false → xs = ys
  | [], [], _, _ => rfl
  | [], y :: ys, h, _ => by rw [HT.lexLt_nil_cons] at h; cases h
  | x :: xs, [], _, h => by rw [HT.lexLt_nil_cons] at h; cases h
  | x :: xs, y :: ys, h1, h2 => by
    rw [HT.lexLt_cons] at h1 h2
    by_cases e : x = y
    · rw [if_pos e] at h1
      rw [if_pos e.symm] at h2
      rw [e, lex_anti xs ys h1 h2]
    · rw [if_neg e] at h1
      rw [if_neg (Ne.symm e)] at h2
      have a := of_decide_eq_false h1
      have b := of_decide_eq_false h2
      omega
/-- there is one list in order -/
theorem lex_uniq : ∀ {l m : List (List Int)}, l.Pairwise (fun x y => HT.lexLt y x = false) → m.Pairwise (fun x y => HT.lexLt y x = false) → l.Perm m → l = m
  | [], m, _, _, h => (List.Perm.eq_nil h.symm).symm
  | x :: l, [], _, _, h => absurd h.length_eq (by simp)
  | x :: l, y :: m, hl, hm, h => by
    have h1 := List.pairwise_cons.mp hl
    have h2 := List.pairwise_cons.mp hm
    have rx : ∀ z : List Int, HT.lexLt z z = false := fun z => by
      cases e : HT.lexLt z z with
      | false => rfl
      | true => rw [NtL.lex_asym _ _ e] at e; cases e
    have a : HT.lexLt x y = false := by
      rcases List.mem_cons.mp (h.mem_iff.mp (List.mem_cons_self (a := x) (l := l))) with e | hx
      · rw [e]; exact rx y
      · exact h2.1 x hx
    have b : HT.lexLt y x = false := by
      rcases List.mem_cons.mp (h.mem_iff.mpr (List.mem_cons_self (a := y) (l := m))) with e | hy
      · rw [e]; exact rx x
      · exact h1.1 y hy
    have e := lex_anti x y a b
    subst e
    rw [lex_uniq h1.2 h2.2 h.cons_inv]
end L2.Z
namespace L2.Z
open PySem PySem.Spec PyProof.Rows
open Evl (Ex)
def rShl' : R2 := rI CPow fun i j => .int (i * 2 ^ j.toNat)
section
variable {X : Cx} {sc : Scope} {N R S G B : List Str} {σ : St} {H : Hp} {Q : VK} {a b : Expr} {pos : Pos} {i j : Int} {K : PySem.W.Frag} {l : Addr} {xs : List V}
theorem e_shl (q : sE X a σ H fun x H1 => sE X b σ H1 fun y H2 => rShl' x y H2 Q) : sE X (.BinOp a .LShift b pos) σ H Q := e_op (r := rShl') op_shl q
theorem x_shl (h : CPow i j) (q : Q (.int (i * 2 ^ j.toNat)) H) : rShl' (.int i) (.int j) H Q := ⟨i, j, rfl, rfl, h, q⟩
theorem y_niT [h : At H l (.tup xs)] (hf : xs.all flatV = true) (q : Q (.bl (!inV (.int i) xs)) H) : rNi' K (.int i) (.ref l) H Q := .inl ⟨l, xs, rfl, .inr (SqT.of h.h), rfl, hf, q⟩
end
/-! ### a global tuple of tuples of whole numbers -/
def tupItems (K : PySem.W.Frag) (a : Addr) : List Value := match K.lookup a with
  | some o => (match o.data with | .seq its _ => its.toList | _ => [])
  | none => []
def tupOk (K : PySem.W.Frag) (a : Addr) : Bool := match K.lookup a with
  | some o => decide (o.cls = .type "tuple") && (match o.data with | .seq its _ => decide (its.size ≤ 100) | _ => false)
  | none => false
def valsB : List V → List Value → Bool
  | [], [] => true
  | .int i :: xs, .int j _ :: us => decide (i = j) && valsB xs us
  | .ref i :: xs, .ref j :: us => decide (i = j) && valsB xs us
  | _, _ => false
theorem valsB_ok : ∀ {xs : List V} {us : List Value}, valsB xs us = true → Vals xs us
  | [], [], _ => .nil
  | .int i :: xs, .int j t :: us, h => by
    obtain ⟨h1, h2⟩ := (Bool.and_eq_true _ _).mp h
    rw [of_decide_eq_true h1]
    exact .cons ⟨t, rfl⟩ (valsB_ok h2)
  | .ref i :: xs, .ref j :: us, h => by
    obtain ⟨h1, h2⟩ := (Bool.and_eq_true _ _).mp h
    rw [of_decide_eq_true h1]
    exact .cons rfl (valsB_ok h2)
theorem tup_sq {K : PySem.W.Frag} {a : Addr} {xs : List V} (h : tupOk K a = true) (hv : valsB xs (tupItems K a) = true) (H : Hp) : SqT K H a xs := by
  have v := valsB_ok hv
  unfold tupOk at h
  unfold tupItems at v
  cases e : K.lookup a with
  | none => rw [e] at h; cases h
  | some o =>
    rw [e] at h v
    obtain ⟨h1, h2⟩ := (Bool.and_eq_true _ _).mp h
    simp only at v
    split at h2
    · rename_i its n hd
      rw [hd] at v
      exact .inr ⟨o, its, n, e, of_decide_eq_true h1, hd, Nat.le_trans (of_decide_eq_true h2) (by decide), v⟩
    · cases h2
def vAd : Value → Addr
  | .ref a => a
  | _ => 0
def cdRows (K : PySem.W.Frag) (x : Str) : List Addr := (tupItems K (He.ga K x)).map vAd
def cdB (K : PySem.W.Frag) (x : Str) (tab : List (List Int)) : Bool := tupOk K (He.ga K x) && (valsB ((cdRows K x).map V.ref) (tupItems K (He.ga K x)) && (decide ((cdRows K x).length = tab.length) && ((cdRows K x).zip tab).all fun p => tupOk K p.1 && valsB (p.2.map V.int) (tupItems K p.1)))
/-- a table of whole numbers stands at a, its rows at rs, whatever the heap -/
class Tab (K : PySem.W.Frag) (a : Addr) (rs : outParam (List Addr)) (tab : outParam (List (List Int))) : Prop where
  top : ∀ H, SqT K H a (rs.map V.ref)
  len : rs.length = tab.length
  row : ∀ p ∈ rs.zip tab, ∀ H, SqT K H p.1 (p.2.map V.int)
theorem cdB_ok {K : PySem.W.Frag} {x : Str} {tab : List (List Int)} (h : cdB K x tab = true) : Tab K (He.ga K x) (cdRows K x) tab := by
  obtain ⟨h1, h2⟩ := (Bool.and_eq_true _ _).mp h
  obtain ⟨h3, h4⟩ := (Bool.and_eq_true _ _).mp h2
  obtain ⟨h5, h6⟩ := (Bool.and_eq_true _ _).mp h4
  refine ⟨fun H => tup_sq h1 h3 H, of_decide_eq_true h5, fun p hp H => ?_⟩
  obtain ⟨h7, h8⟩ := (Bool.and_eq_true _ _).mp (List.all_eq_true.mp h6 p hp)
  exact tup_sq h7 h8 H
/-! ### any(xs) of a list of whole numbers -/
def rAnyI (K : PySem.W.Frag) : List V → Hp → VK → Prop := fun vs H Q => ∃ (a : Addr) (ns : List Int), vs = [V.ref a] ∧ SqL K H a (ns.map V.int) ∧ Q (.bl ((ns.map fun n => n != 0).any id)) H
theorem truth_ints {prog : Program} {w : World} {A : Around} {ns : List Int} {its : List Value} (e : Vals (ns.map V.int) its) :
    TruthOf prog w A (fun i v => its.toArray[i]? = some v) (fun i => (ns.map fun n => n != 0).getD i false) := fun i v s Q E hv hq => by
  have hv' : its[i]? = some v := by simpa using hv
  have hi : i < its.length := (List.getElem?_eq_some_iff.mp hv').1
  obtain ⟨t, ht⟩ := IlS.ints_at (intsAre_of e) i hi
  have ev : v = .int (ns.getD i 0) t := by rw [← ht]; exact ((List.getElem?_eq_some_iff.mp hv').2).symm
  have hl : its.length = ns.length := by rw [← e.length, List.length_map]
  have hg : (ns.map fun n => n != 0).getD i false = (ns.getD i 0 != 0) := by
    rw [List.getD_eq_getElem?_getD, List.getElem?_map, List.getD_eq_getElem?_getD, List.getElem?_eq_getElem (by omega)]
    rfl
  have hq' : Q ((ns.map fun n => n != 0).getD i false) s := hq
  rw [hg] at hq'
  rw [ev]
  exact PyProof.Rows.truthy_int hq'
theorem cr_anyI {X : Cx} (hc : X.calm = true) : CallR X (.builtin "any") (rAnyI X.K) := by
  intro pins s σ H vs us Q I r h
  obtain ⟨a, ns, rfl, hs, q⟩ := h
  obtain ⟨its, rv, hl, _⟩ := I.list hs
  rw [Vals.ref1 r]
  refine call_any_walk (iter_any hl.isList fun s₂ e2 st hne => ?_)
  subst e2
  refine ⟨_, _, _, _, _, _, _, rfl, Walks.list (A := X.A.in1) (I.ok.hd hc) _ a hne its.toArray, st, truth_ints rv, fun h' tk hk => ?_⟩
  refine ⟨.bl _, H, I.kept fun b o eo => hk b o (fun hmem => ?_) (Heap.get?_push_of_some _ eo), ?_, q⟩
  · rcases List.mem_cons.mp hmem with e1 | hmem
    · exact absurd (e1 ▸ Heap.lt_size eo) (Nat.lt_irrefl _)
    · cases hmem
  · show Value.bool _ = Value.bool _
    rw [← any_range, List.size_toArray, List.length_map, ← rv.length, List.length_map]
section
variable {X : Cx} {sc : Scope} {N R S G B : List Str} {σ : St} {H : Hp} {Q : VK} {e : Expr} {es : List Expr} {p pos : Pos} {K : PySem.W.Frag} {l : Addr} {xs : List V} {ns : List Int}
theorem e_anyI [C : Ck X sc N R S G B] [m : Mm G "any"] [mb : Mm B "any"] (q : sA X (e :: es) σ H fun vs H1 => rAnyI X.K vs H1 Q) (he : starEach (e :: es) X.env = (false, eval e X.env) :: starEach es X.env := by rfl) (hpl : (backTo pos (starEach es X.env)).any (·.1) = false := by rfl) :
    sE X (.Call (.Name "any" p) (e :: es) [] pos) σ H Q := e_callB (r := rAnyI X.K) (cr_anyI C.calm) boot_any q he hpl
theorem y_anyI [h : At H l (.lst xs)] [z : Ints xs ns] (q : Q (.bl ((ns.map fun n => n != 0).any id)) H) : rAnyI K [.ref l] H Q := ⟨l, ns, rfl, SqL.of (by rw [h.h, z.h]), q⟩
end
end L2.Z
namespace L2.Z
open PySem PySem.Spec PyProof.Rows
open Evl (Ex)
section
variable {H : Hp} {Q : VK} {K : PySem.W.Frag}
/-- != of [cards, truths] and [cards', truths'] -/
theorem y_neLB {a b c d e f : Addr} {rs rs' : List Addr} {cs cs' : List (List Int)} {ys zs : List V} {bs ds : List Bool} [h1 : At H a (.lst [.ref c, .ref d])] [h2 : LL H c rs cs] [h3 : At H d (.lst ys)] [z3 : Bools ys bs] [h4 : At H b (.lst [.ref e, .ref f])] [h5 : LL H e rs' cs'] [h6 : At H f (.lst zs)] [z6 : Bools zs ds]
    (q : Q (.bl (!(decide (cs = cs') && decide (bs = ds)))) H) : rNe' K (.ref a) (.ref b) H Q := by
  have dc : Dp K H (.ref c) (PySem.W.Datum.toD cs) := dv_ll h2
  have dd : Dp K H (.ref d) (PySem.W.Datum.toD bs) := dv_lb (by rw [h3.h, z3.h])
  have de : Dp K H (.ref e) (PySem.W.Datum.toD cs') := dv_ll h5
  have df : Dp K H (.ref f) (PySem.W.Datum.toD ds) := dv_lb (by rw [h6.h, z6.h])
  refine x_neP (d := .list [PySem.W.Datum.toD cs, PySem.W.Datum.toD bs]) (e := .list [PySem.W.Datum.toD cs', PySem.W.Datum.toD ds]) (.lst (SqL.of h1.h) (.cons dc (.cons dd .nil))) (.lst (SqL.of h4.h) (.cons de (.cons df .nil))) ?_ ?_ ?_ ?_
  · simp only [PyData.plain, PyData.plainAll, PySem.W.Datum.plain, Bool.and_self]
  · simp only [PyData.plain, PyData.plainAll, PySem.W.Datum.plain, Bool.and_self]
  · have h := PySem.W.Datum.depth_le cs
    have h' := PySem.W.Datum.depth_le bs
    have e : PySem.W.Datum.depth (List (List Int)) ≤ 10 := by decide
    have e' : PySem.W.Datum.depth (List Bool) ≤ 10 := by decide
    simp only [PyData.depth, PyData.depthAll]
    omega
  · have e : PyData.eqv (.list [PySem.W.Datum.toD cs, PySem.W.Datum.toD bs]) (.list [PySem.W.Datum.toD cs', PySem.W.Datum.toD ds]) = (decide (cs = cs') && decide (bs = ds)) := by
      simp only [PyData.eqv, PyData.eqvAll, Bool.and_true]
      have e1 : PyData.eqv (PySem.W.Datum.toD cs) (PySem.W.Datum.toD cs') = decide (cs = cs') := PySem.W.Datum.eqv (α := List (List Int)) cs cs'
      have e2 : PyData.eqv (PySem.W.Datum.toD bs) (PySem.W.Datum.toD ds) = decide (bs = ds) := PySem.W.Datum.eqv (α := List Bool) bs ds
      rw [e1, e2]
    rw [e]
    exact q
end
end L2.Z
namespace L2.Z
open PySem PySem.Spec PyProof.Rows
open Evl (Ex)
section
variable {X : Cx} {sc : Scope} {N R S G B : List Str} {σ : St} {H H' H0 : Hp} {Q : VK} {e a b c : Expr} {es : List Expr} {p p2 pos : Pos} {K : PySem.W.Frag} {l D : Addr} {xs : List V} {ns : List Int} {i j : Int} {R' : Addr → Hp → Prop}
/-- 1 << k -/
def rShl1 : R2 := fun x y H Q => ∃ k : Nat, x = .int 1 ∧ y = .int (k : Int) ∧ k ≤ 134217727 ∧ Q (.int (2 ^ k)) H
theorem e_shl1 (q : sE X a σ H fun x H1 => sE X b σ H1 fun y H2 => rShl1 x y H2 Q) : sE X (.BinOp a .LShift b pos) σ H Q := e_op (r := rShl1) op_oneShl q
theorem x_shl1 {k : Nat} (h : k ≤ 134217727) (q : Q (.int (2 ^ k)) H) : rShl1 (.int 1) (.int (k : Int)) H Q := ⟨k, rfl, rfl, h, q⟩
theorem x_shl1' {i : Int} (h : 0 ≤ i ∧ i ≤ 134217727) (q : Q (.int (2 ^ i.toNat)) H) : rShl1 (.int 1) (.int i) H Q := ⟨i.toNat, rfl, by rw [Int.toNat_of_nonneg h.1], by omega, q⟩
theorem e_max [C : Ck X sc N R S G B] [m : Mm G "max"] [mb : Mm B "max"] (q : sA X (e :: es) σ H fun vs H1 => rMax X.K vs H1 Q) (he : starEach (e :: es) X.env = (false, eval e X.env) :: starEach es X.env := by rfl) (hpl : (backTo pos (starEach es X.env)).any (·.1) = false := by rfl) :
    sE X (.Call (.Name "max" p) (e :: es) [] pos) σ H Q := e_callB (r := rMax X.K) (cr_max C.calm) boot_max q he hpl
theorem y_max [h : At H l (.lst xs)] [z : Ints xs ns] (hn : 0 < ns.length) (q : ∀ m, m ∈ ns → (∀ y, y ∈ ns → y ≤ m) → Q (.int m) H) : rMax K [.ref l] H Q := ⟨l, ns, rfl, SqL.of (by rw [h.h, z.h]), hn, q⟩
/-- an object that is new gets another content -/
theorem New.set {o o' : HO} (n : New H0 D o H) : New H0 D o' (upd H D o') := ⟨n.fr, Ex.mut n.ex n.fr, upd_same⟩
theorem New.post {o : HO} (n : New H0 D o H) (e : Ex H H') : New H0 D o H' := ⟨n.fr, n.ex.trans e, e _ _ n.at_⟩
theorem x_sl2 {x : V} {n m : Int} [s : Sq X.K H l xs] (h : 0 ≤ n ∧ n ≤ m) (k : ∀ p H', New H p (.lst ((xs.drop n.toNat).take (m.toNat - n.toNat))) H' → R' p H') : ∃ (l' : Addr) (xs : List V) (m' : Nat), V.ref l = .ref l' ∧ V.int m = .int m' ∧ n.toNat ≤ m' ∧ SqL X.K H l' xs ∧ ∀ p H', New H p (.lst ((xs.drop n.toNat).take (m' - n.toNat))) H' → R' p H' :=
  ⟨l, xs, m.toNat, rfl, by rw [Int.toNat_of_nonneg (by omega)], by omega, s.h, k⟩
theorem x_nat {P : Nat → Prop} {n : Int} (h : 0 ≤ n) (k : P n.toNat) : ∃ m : Nat, V.int n = .int m ∧ P m := ⟨n.toNat, by rw [Int.toNat_of_nonneg h], k⟩
/-- a weaker promise -/
theorem Kn.imp {P : Program} {w : World} {mg : Str → Option Value} {base : Heap} {k : Nat} {x : Str} {ps : List Str} {sp sp' : Sp} (h : Kn P w K mg base k x ps sp) (hi : ∀ vs H Q E, sp' vs H Q E → sp vs H Q E) : Kn P w K mg base k x ps sp' :=
  let ⟨f, fd, a, b⟩ := h.ex; ⟨f, fd, a.imp hi, b⟩
end
end L2.Z
namespace L2.Z
open PySem PySem.Spec PyProof.Rows
open Evl (Ex)
/-! ### own errors: raised, let through, caught -/
/-- what X wishes of an error -/
class Tk (X : Cx) (W : outParam WX) : Prop where
  tk : L2N.Takes X W
/-- the module's name x is an own error's class, at C -/
class Xk (X : Cx) (x : Str) (C : outParam Addr) : Prop where
  gm : X.mg x = some (.ref C)
  ex : PySem.W.excIn X.K C He.veBase "ValueError.__new__" = true
  kp : PySem.W.keepIn X.K (.ref C) = true
  ra : Raises X (.ref C)
structure XkM (K : PySem.W.Frag) (mg : Str → Option Value) (x : Str) (C : Addr) : Prop where
  gm : mg x = some (.ref C)
  ex : PySem.W.excIn K C He.veBase "ValueError.__new__" = true
  kp : PySem.W.keepIn K (.ref C) = true
  sb : PySem.W.subIn K (.ref C) (.type "BaseException") = some true
  ty : PySem.W.typeIn K (.ref C) = some (.type "type")
theorem XkM.of {K : PySem.W.Frag} {h : Heap} {mg : Str → Option Value} {x : Str} (X : K.In h) (G : h.Ns mainGlobals mg) (g : (He.Fa.glo x).ok K = true) (e : (He.Fa.exc x).ok K = true) : XkM K mg x (He.ga K x) := by
  obtain ⟨e1, e2, e3, e4⟩ := He.exc_ok e
  exact ⟨He.glo_ok X G g, e1, e2, e3, e4⟩
section
variable {P : Program} {w : World} {K : PySem.W.Frag} {mg : Str → Option Value} {base : Heap} {k : Nat} {X X' : Cx} {x : Str} {C : Addr}
theorem Bd.xk (b : Bd P w K mg base k X) (h : XkM K mg x C) : Xk X x C := ⟨by rw [b.mg]; exact h.gm, by rw [b.K]; exact h.ex, by rw [b.K]; exact h.kp, raises_own (by rw [b.K]; exact h.sb) (by rw [b.K]; exact h.ty)⟩
instance Xk.sub [s : Sub X X'] [h : Xk X x C] : Xk X' x C := ⟨by rw [s.mg]; exact h.gm, by rw [s.K]; exact h.ex, by rw [s.K]; exact h.kp, fun M hp q => h.ra M hp (by rw [← s.K]; exact q)⟩
end
section
variable {X X' : Cx} {sc : Scope} {N R S G B : List Str} {σ σ' : St} {H : Hp} {Q : VK} {D : Ends} {rest body su : List Stmt} {x n : Str} {v : V} {p p2 p3 pos pos2 np : Pos} {j i : Nat} {e : Expr} {es : List Expr} {W : WX} {sp : Sp} {Ce : Addr}
theorem b_raise [C : Ck X sc N R S G B] [m : Mm G x] [k : Xk X x Ce] [t : Tk X W] {z : Str} (q : W (.ref Ce) none σ H) : sB X (.Raise (some (.Call (.Name x p) [.Constant (.str z) j p2] [] pos)) none pos2 :: rest) D σ H := by
  obtain ⟨k1, k2, _⟩ := C.glo x m.mem
  exact oB (pss_cons (L2N.ps_raise C.calm t.tk (L2N.pmk_own PySem.F.excBase_ValueError k.ex k.gm k.kp k.ra k1 k2)) pB) q
/-- a call that may raise -/
theorem e_callX [C : Ck X sc N R S G B] [m : Mm G x] [t : Tk X W] [F : Fk X x sp] (q : sA X (e :: es) σ H fun vs H1 => sp vs H1 Q (fun cls d H' => W cls d σ H'))
    (he : starEach (e :: es) X.env = (false, eval e X.env) :: starEach es X.env := by rfl) (hpl : (backTo pos (starEach es X.env)).any (·.1) = false := by rfl) : sE X (.Call (.Name x p) (e :: es) [] pos) σ H Q := by
  obtain ⟨k, ps, ⟨f, fd, G1, g, kp, b⟩, hr⟩ := F.ex
  obtain ⟨k1, k2, _⟩ := C.glo x m.mem
  exact oE (pe_callS (E := WE W) G1 hr k1 g kp b (fun σ => L2N.passAt t.tk σ) pA k2 he hpl) q
/-! the suite: a context in which an error is handled -/
class CkS (X : Cx) (sc : outParam Scope) (N R S G B : outParam (List Str)) : Prop where
  sc : X.env.scope = sc
  nm : X.N = N
  nd : X.N.Nodup
  vis : ∀ x ∈ R, Vis X.env.scope x ∧ (x == ("__debug__" : Str)) = false ∧ (x == ("__classdict__" : Str)) = false
  sto : ∀ x ∈ S, Loc X.env.scope x ∧ (X.fn x = true ∨ X.env.scope.names.lookup x = some .local)
  glo : ∀ x ∈ G, Gl X x ∧ (x == ("__debug__" : Str)) = false ∧ x ≠ "__name__"
  blt : ∀ x ∈ B, X.mg x = none
class SubS (X : outParam Cx) (X' : Cx) : Prop where
  K : X'.K = X.K
  mg : X'.mg = X.mg
  un : X'.A.units = X.A.units
/-- the error at a is one of the class at Dc -/
class Er (X : Cx) (a Dc : outParam Addr) : Prop where
  cr : CallR X (.builtin "isinstance") (rIsE X.K Dc a)
class Hc (X : Cx) : Prop where
  hot : L2H.HotC X
/-- what the suite is to reach -/
def tSu (X : Cx) (sc : Scope) (N R S G B : List Str) (su : List Stmt) : Addr → Value → Option Addr → TS := fun a cls d D σ H => ∀ X', SubS X X' → CkS X' sc N R S G B → (∀ Dc, cls = .ref Dc → d = none → ExcC X.K Dc → Er X' a Dc) → Hc X' → sB X' su D σ H
theorem b_try [C : Ck X sc N R S G B] [t : Tk X W] {c : Value} {b0 : Stmt} (hs : X.stack = X.env :: X.outer) (hf : X.env.frame = some X.env.locals) (hi : N[i]? = some n) (hln : sc.names.lookup n = some .local) (nm : Names X x c)
    (q : ∀ X', Sub X X' → Ck X' sc N R S G B → Tk X' (wAs X.K c i (tSu X sc N R S G B (b0 :: su)) W { D with nx := sB X rest D }) → Po X' → sB X' body { D with nx := sB X rest D } σ H) :
    sB X (.Try body [.ExceptHandler (some (.Name x np)) (some n) (b0 :: su) p3] [] [] pos :: rest) D σ H := by
  refine oB (pss_cons (L2N.ps_try_as (i := i) (c := c) (tb := fun W' D σ H => ∀ X', Sub X X' → Ck X' sc N R S G B → Tk X' W' → Po X' → sB X' body D σ H) (ts := tSu X sc N R S G B (b0 :: su)) hs hf C.nd (by rw [C.nm]; exact hi) (show X.env.scope.names.lookup n = some .local by rw [C.sc]; exact hln) nm t.tk (fun W' pn xe tk po => ?_) (fun a oe cls d pn hz hv => ?_)) pB) q
  · refine ⟨fun pins s σ H D I h => (h (X.tr pn xe) ?_ ?_ ⟨tk⟩ ⟨po⟩).run pins s I⟩
    · exact ⟨rfl, rfl, fun f sp F => ⟨F.ex⟩, rfl, rfl, rfl, rfl⟩
    · exact ⟨C.sc, C.nm, C.nd, C.calm, C.vis, C.sto, C.glo, C.blt⟩
  · refine ⟨fun pins s σ H D I h => (h (X.suite a ((a, oe) :: pn)) ⟨rfl, rfl, rfl⟩ ⟨C.sc, C.nm, C.nd, C.vis, C.sto, C.glo, C.blt⟩ (fun Dc e1 e2 ec => ⟨?_⟩) ⟨⟨(a, oe), ⟨rfl, ?_⟩, List.mem_cons_self⟩⟩).run pins s I⟩
    · subst e1 e2
      exact call_isE ec hz.zc hv
    · obtain ⟨vs, e⟩ := hv
      exact ⟨vs, e, hz.2.2 vs e⟩
/-- an error of the class at Dc is caught by the clause -/
theorem x_catch {c : Value} {Dc : Addr} (hi : N[i]? = some n) (nd : N.Nodup) (he : PySem.W.exmOne X.K (.ref Dc) c = some true) (ec : ExcC X.K Dc)
    (k : ∀ a X', H a = none → SubS X X' → CkS X' sc N R S G B → Er X' a Dc → Hc X' → ∃ σ', Put N σ n (.ref a) σ' ∧ sB X' su { nx := fun σ' H' => D.nx (σ'.set i none) H', rt := D.rt, bk := fun σ' H' => D.bk (σ'.set i none) H', ct := fun σ' H' => D.ct (σ'.set i none) H' } σ' H) :
    wAs X.K c i (tSu X sc N R S G B su) W D (.ref Dc) none σ H := by
  refine ⟨true, he, fun _ a ha X' s ck er hc => ?_, fun z => nomatch z⟩
  obtain ⟨σ', pu, q⟩ := k a X' ha s ck (er Dc rfl rfl ec) hc
  rw [put_ix pu nd hi]
  exact q
theorem e_varS [C : CkS X sc N R S G B] [m : Mm R x] [h : Has N σ x v] (q : Q v H) : sE X (.Name x pos) σ H Q := by
  obtain ⟨i, h1, h2⟩ := h.ix
  obtain ⟨k1, k2, k3⟩ := C.vis x m.mem
  exact oE (pe_var (i := i) (by rw [C.nm]; exact h1) k1 k2 k3) ⟨v, h2, q⟩
instance Gv.subS [s : SubS X X'] [h : Gv X x v] : Gv X' x v := ⟨by rw [s.mg]; exact h.ex⟩
instance Ru.subS [s : SubS X X'] [h : Ru X] : Ru X' := ⟨by rw [s.un]; exact h.ru'⟩
theorem e_gvS [C : CkS X sc N R S G B] [m : Mm G x] [g : Gv X x v] (q : Q v H) : sE X (.Name x pos) σ H Q := by
  obtain ⟨u, h1, h2⟩ := g.ex
  obtain ⟨k1, k2, _⟩ := C.glo x m.mem
  exact oE (pe_glob k1 h1 h2 k2) q
theorem boot_VE : bootBuiltins "ValueError" = some (.type "ValueError") := by decide +kernel
theorem e_veS [C : CkS X sc N R S G B] [m : Mm G "ValueError"] [mb : Mm B "ValueError"] (q : Q (.ty "ValueError") H) : sE X (.Name "ValueError" pos) σ H Q := by
  obtain ⟨k1, k2, k3⟩ := C.glo _ m.mem
  exact oE (pe_bltn (v := .ty "ValueError") k1 (C.blt _ mb.mem) boot_VE rfl k3 k2) q
theorem e_isE [C : CkS X sc N R S G B] [m : Mm G "isinstance"] [mb : Mm B "isinstance"] {a : Addr} {Dc : Addr} [er : Er X a Dc] (q : sA X (e :: es) σ H fun vs H1 => rIsE X.K Dc a vs H1 Q)
    (he : starEach (e :: es) X.env = (false, eval e X.env) :: starEach es X.env := by rfl) (hpl : (backTo pos (starEach es X.env)).any (·.1) = false := by rfl) : sE X (.Call (.Name "isinstance" p) (e :: es) [] pos) σ H Q := by
  obtain ⟨k1, k2, k3⟩ := C.glo _ m.mem
  exact oE (pe_callB er.cr k1 (C.blt _ mb.mem) boot_isinstance pA k3 k2 he hpl) q
/-- an error of Dc is (b) one of c -/
class Ke (K : PySem.W.Frag) (Dc : Addr) (c : V) (b : outParam Bool) : Prop where
  h : ∃ cv, (∀ u, RelV c u → u = cv) ∧ PySem.W.kitOne K (.ref Dc) cv = some b
theorem x_isE {K : PySem.W.Frag} {a Dc : Addr} {c : V} {b : Bool} [k : Ke K Dc c b] (q : Q (.bl b) H) : rIsE K Dc a [.ref a, c] H Q := by
  obtain ⟨cv, h1, h2⟩ := k.h
  exact ⟨c, cv, b, rfl, h1, h2, q⟩
instance Ke.subS {Dc : Addr} {c : V} {b : Bool} [s : SubS X X'] [k : Ke X.K Dc c b] : Ke X'.K Dc c b := ⟨by rw [s.K]; exact k.h⟩
theorem b_asgS [C : CkS X sc N R S G B] [m : Mm S x] (q : sE X e σ H fun v H1 => ∃ σ', Put N σ x v σ' ∧ sB X rest D σ' H1)
    (hs : swapsWith e (some (.Name x p)) pos.line X.env = pure false := by rfl) : sB X (.Assign [.Name x p] e pos :: rest) D σ H := by
  obtain ⟨k1, k2⟩ := C.sto x m.mem
  refine ⟨fun pins s I => wpAny_execs_cons ?_⟩
  refine wpAny_Assign_Name (thn (q.run pins s I) fun u s1 ⟨y, H1, I1, r1, σ', pu, q1⟩ => ?_) hs
  obtain ⟨i, h1, h2⟩ := pu.ix
  refine store_ok I1 C.nd (by rw [C.nm]; exact h1) k1 r1 (fun s2 I2 => ?_) k2
  rw [← h2] at I2
  exact q1.run pins s2 I2
end
/-- what the head looks at for an error's class -/
def errB (K : PySem.W.Frag) (x : Str) : Bool := He.eqO (PySem.W.findIn K (.ref (He.ga K x)) "__getattribute__") (some (some (.builtin "BaseException.__getattribute__"))) && (He.eqO (PySem.W.findIn K (.ref (He.ga K x)) "__getattr__") (some none) &&
  (decide (PySem.W.subIn K (.ref (He.ga K x)) (.type "BaseException") = some true) && (PySem.W.hasDictIn K (He.ga K x) && (He.eqO (PySem.W.findIn K (.ref (He.ga K x)) "__class__") (some (some (.builtin "object.__class__"))) &&
  (He.eqO (PySem.W.specialIn K (.builtin "object.__class__") "__get__") (some (some (.builtin "getset_descriptor.__get__"))) && (decide (PySem.W.takesIn K (.builtin "object.__class__") = some true) && decide (PySem.W.mroIn K (He.ga K x) (.type "object") = some true)))))))
theorem errB_ok {K : PySem.W.Frag} {x : Str} (h : errB K x = true) : ExcC K (He.ga K x) := by
  obtain ⟨h1, h⟩ := He.ba h
  obtain ⟨h2, h⟩ := He.ba h
  obtain ⟨h3, h⟩ := He.ba h
  obtain ⟨h4, h⟩ := He.ba h
  obtain ⟨h5, h⟩ := He.ba h
  obtain ⟨h6, h⟩ := He.ba h
  obtain ⟨h7, h8⟩ := He.ba h
  exact ⟨He.eqO_ok h1, He.eqO_ok h2, of_decide_eq_true h3, h4, He.eqO_ok h5, He.eqO_ok h6, of_decide_eq_true h7, of_decide_eq_true h8⟩
def keB (K : PySem.W.Frag) (x y : Str) (b : Bool) : Bool := decide (PySem.W.kitOne K (.ref (He.ga K x)) (.ref (He.ga K y)) = some b)
theorem keB_ok {K : PySem.W.Frag} {x y : Str} {b : Bool} (h : keB K x y b = true) : Ke K (He.ga K x) (.ref (He.ga K y)) b := ⟨⟨_, fun u r => r, of_decide_eq_true h⟩⟩
def kvB (K : PySem.W.Frag) (x : Str) : Bool := decide (PySem.W.kitOne K (.ref (He.ga K x)) (.type "ValueError") = some true)
theorem kvB_ok {K : PySem.W.Frag} {x : Str} (h : kvB K x = true) : Ke K (He.ga K x) (.ty "ValueError") true := ⟨⟨_, fun u r => r, of_decide_eq_true h⟩⟩
end L2.Z
namespace L2.Z
open PySem PySem.Spec PyProof.Rows
open Evl (Ex)
section
variable {X : Cx} {sc scope : Scope} {N R S G B R' G' : List Str} {σ σ' : St} {H H1 : Hp} {Q Q' : VK} {D : Ends} {rest body : List Stmt} {x x0 x1 x2 x3 x4 x5 x6 : Str} {p px pos q1 q2 q3 q4 q5 q6 q7 : Pos} {e l elt tg : Expr} {es ifs : List Expr} {vs : List Nat} {g : TG} {J : It} {i0 : Nat} {A : Addr} {xs : List V} {α : Type}
theorem lcQ_mono (m : ∀ v H, Q' v H → Q v H) (h : lcQ X sc N R S G B vs g elt ifs σ J H1 Q') : lcQ X sc N R S G B vs g elt ifs σ J H1 Q := by
  obtain ⟨n, Gd, Y, Rl, a⟩ := h
  exact ⟨n, Gd, Y, Rl, ⟨a.wk, a.r0, a.gd, a.len, a.yx, a.turn, fun acc D H' nw z => m _ _ (a.done acc D H' nw z)⟩⟩
/-- x = e, then what follows, shown from Mid -/
theorem b_asgM [C : Ck X sc N R S G B] [m : Mm S x] (Mid : St → Hp → Prop) (q : sE X e σ H fun v H1 => ∃ σ', Put N σ x v σ' ∧ Mid σ' H1) (k : ∀ σ' H', Mid σ' H' → sB X rest D σ' H')
    (hs : swapsWith e (some (.Name x p)) pos.line X.env = pure false := by rfl) : sB X (.Assign [.Name x p] e pos :: rest) D σ H :=
  b_asg (sE_mono (fun v H1 ⟨σ', pu, z⟩ => ⟨σ', pu, k σ' H1 z⟩) q) hs
theorem e_ttup [C : Ck X sc N R S G B] [m : Mm G "tuple"] [mb : Mm B "tuple"] (q : Q (.ty "tuple") H) : sE X (.Name "tuple" pos) σ H Q := e_bltn (v := .ty "tuple") boot_tuple rfl q
theorem e_tstr [C : Ck X sc N R S G B] [m : Mm G "str"] [mb : Mm B "str"] (q : Q (.ty "str") H) : sE X (.Name "str" pos) σ H Q := e_bltn (v := .ty "str") boot_str rfl q
/-! ### comprehensions over a tuple -/
theorem i_tup {Rr : It → Hp → Prop} (q : sE X l σ H fun v H1 => ∃ a xs, v = .ref a ∧ SqT X.K H1 a xs ∧ Rr (Itt X.K a) H1) : sI X tg l σ H Rr :=
  oI (pi_tup pE) (sE_mono (fun v H1 ⟨a, xs, e, s, r⟩ => ⟨a, e, ⟨xs, s⟩, r⟩) q)
theorem y_tup {P : Addr → Prop} {l : Addr} [h : At H l (.tup xs)] (q : P l) : ∃ a xs, V.ref l = .ref a ∧ SqT X.K H a xs ∧ P a := ⟨l, xs, rfl, SqT.of h.h, q⟩
theorem src_tup {K : PySem.W.Frag} {a : Addr} (as : List α) (gx : α → V) (hx : xs = as.map gx) (h : H1 a = some (.tup xs)) (hl : as.length ≤ 40000) :
    SrcOk σ H1 (Itt K a) (fun H => SqT K H a xs) (YAt xs) [i0] (gName i0) as (fun a => σ.set i0 (some (gx a))) := by
  have e : as.length = xs.length := by rw [hx, List.length_map]
  refine ⟨by rw [e]; exact walk_tup, fun H ex => SqT.of (ex _ _ h), hl, fun i a Hc x H' ha ex y P k => ?_, fun a => wipe_set1, fun i H x H' y => by rw [y.1]; exact Ex.refl _⟩
  obtain ⟨rfl, y2⟩ := y
  have e2 : x = gx a := by
    rw [hx, List.getElem?_map, ha] at y2
    exact (Option.some.inj y2).symm
  show P ((wipe σ [i0]).set i0 (some x)) H'
  rw [show (wipe σ [i0]).set i0 (some x) = σ.set i0 (some x) from set_none_set, e2]
  exact k H' (Ex.refl _)
theorem lcT (as : List α) (gx : α → V) (pp : α → Bool) (f : α → V) [C : Ck X sc N R S G B] [s : At H1 A (.tup xs)] (hi : N[i0]? = some x0) (hx : xs = as.map gx) (hl : as.length ≤ 40000)
    (turn : ∀ a, a ∈ as → ∀ Hc, Up H1 Hc → ∃ σ2, Put N σ x0 (gx a) σ2 ∧ Turn1 X (relS scope sc) N R' [x0] G' B elt ifs σ2 Hc (pp a) (f a))
    (done : ∀ D H', New H1 D (.lst ((as.filter pp).map f)) H' → Q (.ref D) H') : lcQ X (relS scope sc) N R' [x0] G' B [i0] (gName i0) elt ifs σ (Itt X.K A) H1 Q := by
  have nd := C.nd
  rw [C.nm] at nd
  refine ⟨_, _, _, _, askM (src_tup as gx hx s.h hl) pp f (fun a ha Hc e => ?_) done⟩
  obtain ⟨σ2, pu, k⟩ := turn a ha Hc ⟨e⟩
  rw [pu.eq nd hi] at k
  exact k
/-! ### for over a list of 4-tuples, of 6-tuples -/
theorem b_forL4 [C : Ck X sc N R S G B] [P : Po X] [m1 : Mm S x1] [m2 : Mm S x2] [m3 : Mm S x3] [m4 : Mm S x4] [n1 : Mm N x1] [n2 : Mm N x2] [n3 : Mm N x3] [n4 : Mm N x4] {k : Nat}
    (q : sE X l σ H fun v H1 => ∃ (a : Addr) (xs : List V), v = .ref a ∧ SqL X.K H1 a xs ∧ ∃ Pv : Nat → St → Hp → Prop, Pv 0 σ H1 ∧ (∀ i σ' H', i ≤ xs.length → Pv i σ' H' → SqL X.K H' a xs) ∧
      (∀ (i : Nat) v σ' H', xs[i]? = some v → Pv i σ' H' → ∃ (T : Addr) (u1 u2 u3 u4 : V), v = .ref T ∧ H' T = some (.tup [u1, u2, u3, u4]) ∧ ∃ σ1 σ2 σ3 σ4, Put N σ' x1 u1 σ1 ∧ Put N σ1 x2 u2 σ2 ∧ Put N σ2 x3 u3 σ3 ∧ Put N σ3 x4 u4 σ4 ∧ sB X body (lpE X D rest (Pv (i + 1))) σ4 H') ∧ ∀ σ' H', Pv xs.length σ' H' → sB X rest D σ' H')
    (hs : ∀ x, foldedSetIterable l X.env x = pure x := by intro _; rfl) : sB X (.For (.Tuple [.Name x1 q1, .Name x2 q2, .Name x3 q3, .Name x4 q4] k q5) l body [] pos :: rest) D σ H := by
  obtain ⟨i1, h1⟩ := ix_of (N := N) (x := x1)
  obtain ⟨i2, h2⟩ := ix_of (N := N) (x := x2)
  obtain ⟨i3, h3⟩ := ix_of (N := N) (x := x3)
  obtain ⟨i4, h4⟩ := ix_of (N := N) (x := x4)
  have nd := C.nd
  rw [C.nm] at nd
  refine oB (pss_cons (ps_for P.po C.calm (pi_list pE) (pg_tup C.calm (pgs_cons (pgn h1) (pgs_cons (pgn h2) (pgs_cons (pgn h3) (pgs_cons (pgn h4) pgs_nil))))) pB hs) pB) ?_
  refine sE_mono (fun v H1 h => ?_) q
  obtain ⟨a, xs, e, s, Pv, h0, hl, ht, hd⟩ := h
  refine ⟨a, e, ⟨xs, s⟩, for_list (D := { D with nx := sB X rest D }) Pv h0 hl (fun i v σ' H' hv p => ?_) hd⟩
  obtain ⟨T, u1, u2, u3, u4, e1, e2, σ1, σ2, σ3, σ4, p1, p2, p3, p4, k⟩ := ht i v σ' H' hv p
  refine ⟨T, [u1, u2, u3, u4], e1, SqT.of e2, rfl, u1, _, rfl, u2, _, rfl, u3, _, rfl, u4, [], rfl, rfl, ?_⟩
  show sB X body _ ((((σ'.set i1 (some u1)).set i2 (some u2)).set i3 (some u3)).set i4 (some u4)) H'
  rw [put_ix p1 nd h1, put_ix p2 nd h2, put_ix p3 nd h3, put_ix p4 nd h4]
  exact k
theorem b_forL6 [C : Ck X sc N R S G B] [P : Po X] [m1 : Mm S x1] [m2 : Mm S x2] [m3 : Mm S x3] [m4 : Mm S x4] [m5 : Mm S x5] [m6 : Mm S x6] [n1 : Mm N x1] [n2 : Mm N x2] [n3 : Mm N x3] [n4 : Mm N x4] [n5 : Mm N x5] [n6 : Mm N x6] {k : Nat}
    (q : sE X l σ H fun v H1 => ∃ (a : Addr) (xs : List V), v = .ref a ∧ SqL X.K H1 a xs ∧ ∃ Pv : Nat → St → Hp → Prop, Pv 0 σ H1 ∧ (∀ i σ' H', i ≤ xs.length → Pv i σ' H' → SqL X.K H' a xs) ∧
      (∀ (i : Nat) v σ' H', xs[i]? = some v → Pv i σ' H' → ∃ (T : Addr) (u1 u2 u3 u4 u5 u6 : V), v = .ref T ∧ H' T = some (.tup [u1, u2, u3, u4, u5, u6]) ∧ ∃ σ1 σ2 σ3 σ4 σ5 σ6, Put N σ' x1 u1 σ1 ∧ Put N σ1 x2 u2 σ2 ∧ Put N σ2 x3 u3 σ3 ∧ Put N σ3 x4 u4 σ4 ∧ Put N σ4 x5 u5 σ5 ∧ Put N σ5 x6 u6 σ6 ∧ sB X body (lpE X D rest (Pv (i + 1))) σ6 H') ∧ ∀ σ' H', Pv xs.length σ' H' → sB X rest D σ' H')
    (hs : ∀ x, foldedSetIterable l X.env x = pure x := by intro _; rfl) : sB X (.For (.Tuple [.Name x1 q1, .Name x2 q2, .Name x3 q3, .Name x4 q4, .Name x5 q5, .Name x6 q6] k q7) l body [] pos :: rest) D σ H := by
  obtain ⟨i1, h1⟩ := ix_of (N := N) (x := x1)
  obtain ⟨i2, h2⟩ := ix_of (N := N) (x := x2)
  obtain ⟨i3, h3⟩ := ix_of (N := N) (x := x3)
  obtain ⟨i4, h4⟩ := ix_of (N := N) (x := x4)
  obtain ⟨i5, h5⟩ := ix_of (N := N) (x := x5)
  obtain ⟨i6, h6⟩ := ix_of (N := N) (x := x6)
  have nd := C.nd
  rw [C.nm] at nd
  refine oB (pss_cons (ps_for P.po C.calm (pi_list pE) (pg_tup C.calm (pgs_cons (pgn h1) (pgs_cons (pgn h2) (pgs_cons (pgn h3) (pgs_cons (pgn h4) (pgs_cons (pgn h5) (pgs_cons (pgn h6) pgs_nil))))))) pB hs) pB) ?_
  refine sE_mono (fun v H1 h => ?_) q
  obtain ⟨a, xs, e, s, Pv, h0, hl, ht, hd⟩ := h
  refine ⟨a, e, ⟨xs, s⟩, for_list (D := { D with nx := sB X rest D }) Pv h0 hl (fun i v σ' H' hv p => ?_) hd⟩
  obtain ⟨T, u1, u2, u3, u4, u5, u6, e1, e2, σ1, σ2, σ3, σ4, σ5, σ6, p1, p2, p3, p4, p5, p6, k⟩ := ht i v σ' H' hv p
  refine ⟨T, [u1, u2, u3, u4, u5, u6], e1, SqT.of e2, rfl, u1, _, rfl, u2, _, rfl, u3, _, rfl, u4, _, rfl, u5, _, rfl, u6, [], rfl, rfl, ?_⟩
  show sB X body _ ((((((σ'.set i1 (some u1)).set i2 (some u2)).set i3 (some u3)).set i4 (some u4)).set i5 (some u5)).set i6 (some u6)) H'
  rw [put_ix p1 nd h1, put_ix p2 nd h2, put_ix p3 nd h3, put_ix p4 nd h4, put_ix p5 nd h5, put_ix p6 nd h6]
  exact k
theorem x_p4 {v1 v2 v3 v4 : V} {σ1 σ2 σ3 σ4 : St} {P : St → Prop} [a1 : Put N σ x1 v1 σ1] [a2 : Put N σ1 x2 v2 σ2] [a3 : Put N σ2 x3 v3 σ3] [a4 : Put N σ3 x4 v4 σ4] (k : P σ4) : ∃ σ1 σ2 σ3 σ4, Put N σ x1 v1 σ1 ∧ Put N σ1 x2 v2 σ2 ∧ Put N σ2 x3 v3 σ3 ∧ Put N σ3 x4 v4 σ4 ∧ P σ4 := ⟨_, _, _, _, a1, a2, a3, a4, k⟩
theorem x_p6 {v1 v2 v3 v4 v5 v6 : V} {σ1 σ2 σ3 σ4 σ5 σ6 : St} {P : St → Prop} [a1 : Put N σ x1 v1 σ1] [a2 : Put N σ1 x2 v2 σ2] [a3 : Put N σ2 x3 v3 σ3] [a4 : Put N σ3 x4 v4 σ4] [a5 : Put N σ4 x5 v5 σ5] [a6 : Put N σ5 x6 v6 σ6] (k : P σ6) : ∃ σ1 σ2 σ3 σ4 σ5 σ6, Put N σ x1 v1 σ1 ∧ Put N σ1 x2 v2 σ2 ∧ Put N σ2 x3 v3 σ3 ∧ Put N σ3 x4 v4 σ4 ∧ Put N σ4 x5 v5 σ5 ∧ Put N σ5 x6 v6 σ6 ∧ P σ6 := ⟨_, _, _, _, _, _, a1, a2, a3, a4, a5, a6, k⟩
end
end L2.Z
namespace L2.Z
open PySem PySem.Spec PyProof.Rows
open Evl (Ex)
/-! ### a comprehension over range, where an error is handled -/
def tLcH (wi : TI) (te : TE) (i0 : Nat) : TE := fun σ H Q => wi σ H fun J H1 => ∃ (n : Nat) (val : Nat → V), J = Itr 0 n ∧ n ≤ 1000 ∧ (∀ i, i < n → ∀ Hc, Ex H1 Hc → te (σ.set i0 (some (.int (i : Nat)))) Hc fun y H4 => y = val i ∧ H4 = Hc) ∧ ∀ D, H1 D = none → Q (.ref D) (upd H1 D (.lst ((List.range n).map val)))
section
variable {X : Cx}
theorem upd_upd {H : Hp} {D : Addr} {o o' : HO} : upd (upd H D o) D o' = upd H D o' := by
  funext b
  by_cases z : b = D
  · rw [z, upd_same, upd_same]
  · rw [upd_ne z, upd_ne z, upd_ne z]
theorem pe_lcH {elt iter : Expr} {x0 : Str} {scope : Scope} {i0 : Nat} {px pos : Pos} {wi : TI} {te : TE} (hot : L2H.HotC X) (nd : X.N.Nodup) (src : L2H.PIH X (.Name x0 px) iter wi) (bo : BlkOk X.N X.env.scope scope [(x0, i0)])
    (pgB : ∀ (s : Shared) (H : Hp) (C : Addr) (cl : List (Str × Addr)) (fp : List Addr), PG (X.blk s H scope (compEnvC scope cl C X.env) fp) (.Name x0 px) (gName i0))
    (peB : ∀ (s : Shared) (H : Hp) (C : Addr) (cl : List (Str × Addr)) (fp : List Addr), PE (X.blk s H scope (compEnvC scope cl C X.env) fp) elt te) (fold : ∀ x, foldedSetIterable iter X.env x = pure x) :
    PE X (.ListComp elt [⟨.Name x0 px, iter, [], 0⟩] scope pos) (tLcH wi te i0) := by
  obtain ⟨p, hot1, hpn⟩ := hot
  refine ⟨fun pins s0 σ H Q I0 ask => ?_⟩
  rw [eval_ListComp]
  have seen : ∀ y ∈ scope.names, y.2 = .free → ∃ c, X.env.cells.lookup y.1 = some c := fun y hy e => (bo.free y hy e).elim (fun z => I0.ok.has _ (.inl z)) fun z => I0.ok.has _ (.inr z)
  refine wpAny_comprehension_free (use := none) rfl fold (closure_ok seen) bo.kind (fun y hy e => (bo.uniq y hy).trans (congrArg some e)) (thn (src.run pins s0 σ H _ I0 ask) fun _ s1 st => thn st fun itv s2 got => ?_)
  obtain ⟨it, fp, tn, J, H2, rfl, I2, tu, t0, f2, n, val, rfl, small, turn, done⟩ := got
  refine wpAny_newObj_type (newEnv_comp ?_) (by show 0 ≤ sizeLine; decide)
  generalize eD : s2.heap.objs.size = D
  have frD : H2 D = none := I2.hok.fresh (Nat.le_of_eq eD)
  generalize es3 : ({ s2 with heap := s2.heap.push { cls := .type "list", data := .seq ([] : List Value).toArray } } : Shared) = s3
  have heap3 : s3.heap = s2.heap.push { cls := .type "list", data := .seq ([] : List Value).toArray } := by rw [← es3]
  have I3 : Inv X pins σ (upd H2 D (.lst [])) s3 := by
    subst es3
    refine I2.laid (t' := s2.toks) (fun b o e => Heap.get?_push_of_some _ e) (Nat.le_of_eq eD) ⟨Nat.zero_le _, [], 0, .nil, ?_⟩
    subst eD
    exact Heap.get?_push_size _ rfl
  have young : ∀ b ∈ fp, b < s2.heap.objs.size := fun b hb => by
    obtain ⟨o, e, _⟩ := tu.obj _ _ t0 b hb
    exact Heap.lt_size e
  have fp3 : ∀ b ∈ fp, FpOk X pins (upd H2 D (.lst [])) b ∧ b < s3.heap.objs.size := fun b hb => by
    have lt := young b hb
    obtain ⟨g0, g1⟩ := f2 b hb
    refine ⟨⟨?_, g1⟩, by rw [heap3, Heap.size_push]; exact Nat.lt_succ_of_lt lt⟩
    rw [upd_ne (by rw [← eD]; exact Nat.ne_of_lt lt)]
    exact g0
  have t3 : tn 0 s3.heap := tu.keep _ _ _ t0 fun b _ o e => by rw [heap3]; exact Heap.get?_push_of_some _ e
  have B0 := block_start I3 bo nd fp3
  obtain ⟨pin1, pin2, pin3, pin4, pin5⟩ := I3.pin p (List.mem_append_left _ hpn)
  have npfp : ∀ b ∈ fp, p.1 ≠ b := fun b hb => (fp3 b hb).1.2.2.2.2.2 p (List.mem_append_left _ hpn)
  have Pg := pgB s3 (upd H2 D (.lst [])) s3.heap.objs.size (cellsFrom (s3.heap.objs.size + 1) scope.names (cloFrom X.env.cells scope.names [])) fp
  have Pe := peB s3 (upd H2 D (.lst [])) s3.heap.objs.size (cellsFrom (s3.heap.objs.size + 1) scope.names (cloFrom X.env.cells scope.names [])) fp
  show codeAny _ _ (.compStart (.ListComp elt [⟨.Name x0 px, iter, [], 0⟩] scope pos) 0 (.ref it) (.ref D) (compEnvC scope (cellsFrom (s3.heap.objs.size + 1) scope.names (cloFrom X.env.cells scope.names [])) s3.heap.objs.size X.env)) (compPost (model X.prog X.w) X.A X.xe none _ (.ref D) s3.heap.objs.size) { s3 with heap := pushCells (s3.heap.push { cls := .type "dict", data := .dict #[] }) scope.names }
  have keepS : ∀ b o, s3.heap.get? b = some o → (pushCells (s3.heap.push { cls := .type "dict", data := .dict #[] }) scope.names).get? b = some o := fun b o e => pushCells_keeps _ _ _ _ (Heap.get?_push_of_some _ e)
  generalize ece : compEnvC scope (cellsFrom (s3.heap.objs.size + 1) scope.names (cloFrom X.env.cells scope.names [])) s3.heap.objs.size X.env = ce at B0 Pg Pe ⊢
  have lce : ce.locals = s3.heap.objs.size := by subst ece; rfl
  generalize es4 : ({ s3 with heap := pushCells (s3.heap.push { cls := .type "dict", data := .dict #[] }) scope.names } : Shared) = s4 at B0 ⊢
  have heap4 : ∀ b o, s3.heap.get? b = some o → s4.heap.get? b = some o := fun b o e => by subst es4; exact keepS b o e
  have frs_of : p.1 ∉ frs X.stack := fun hm => by
    rcases List.mem_cons.mp (I3.stkSub _ hm) with z | z
    · exact pin3 z
    · exact pin4 z
  have B1 : Inv (X.blk s3 (upd H2 D (.lst [])) scope ce fp) [p] (wipe σ [i0]) (upd H2 D (.lst [])) s4 := B0.pins_of fun q hq => by
    rw [List.mem_singleton.mp hq]
    exact ⟨heap4 _ _ pin1, pin2, by show p.1 ≠ ce.locals; rw [lce]; exact Nat.ne_of_lt (Heap.lt_size pin1), frs_of, pin5⟩
  have t4 : tn 0 s4.heap := tu.keep _ _ _ t3 fun b _ o e => heap4 b o e
  -- the iterator's objects, at any turn
  have fpB : ∀ {σ' : St} {H' : Hp} {s' : Shared}, Inv (X.blk s3 (upd H2 D (.lst [])) scope ce fp) [p] σ' H' s' → (∀ b ∈ fp, H' b = none) → ∀ b ∈ fp, FpOk ((X.blk s3 (upd H2 D (.lst [])) scope ce fp).tr ((X.blk s3 (upd H2 D (.lst [])) scope ce fp).pn ++ [p]) (X.blk s3 (upd H2 D (.lst [])) scope ce fp).xe) [] H' b := fun {σ' H' s'} J hn b hb =>
    ⟨hn b hb, (J.ok.exf b hb).1, J.ok.exfs b hb, .inl hb, fun y c e => (J.ok.exf b hb).2 y c e, fun q hq => by
      rcases List.mem_append.mp hq with z | z
      · have : q = p := by simpa using z
        rw [this]
        exact npfp b hb
      · cases z⟩
  have hotY : L2H.HotC ((X.blk s3 (upd H2 D (.lst [])) scope ce fp).tr ((X.blk s3 (upd H2 D (.lst [])) scope ce fp).pn ++ [p]) (X.blk s3 (upd H2 D (.lst [])) scope ce fp).xe) := ⟨p, hot1, List.mem_append_right _ List.mem_cons_self⟩
  have ndfp : ∀ b ∈ fp, b ≠ D := fun b hb z => by have q := young b hb; rw [z, ← eD] at q; exact Nat.lt_irrefl _ q
  have run : codeAny (model X.prog X.w) X.A (.compLoop (.ListComp elt [⟨.Name x0 px, iter, [], 0⟩] scope pos) 0 (.ref it) (.ref D) ce) (compPost (model X.prog X.w) X.A X.xe none (EP X pins σ Q) (.ref D) s3.heap.objs.size) s4 := by
    refine compLoop_any (fun left s' => ∃ i, left + i = n ∧ Inv (X.blk s3 (upd H2 D (.lst [])) scope ce fp) [p] (wipe σ [i0]) (upd H2 D (.lst ((List.range i).map val))) s' ∧ tn i s'.heap) ?_ n ⟨0, rfl, B1, t4⟩
    rintro left s5 ⟨i, hl, J5, t5⟩
    have nfp : ∀ b ∈ fp, upd H2 D (.lst ((List.range i).map val)) b = none := fun b hb => by rw [upd_ne (ndfp b hb)]; exact (f2 b hb).1
    have Y5 := J5.toTry (X.blk s3 (upd H2 D (.lst [])) scope ce fp).xe
    by_cases hi : i < n
    · refine thnF (tu.item ((X.blk s3 (upd H2 D (.lst [])) scope ce fp).tr ((X.blk s3 (upd H2 D (.lst [])) scope ce fp).pn ++ [p]) (X.blk s3 (upd H2 D (.lst [])) scope ce fp).xe) rfl rfl rfl hotY i [] s5 _ _ (fun _ _ => False) Y5 (fpB J5 nfp) t5 hi) fun r s6 ⟨u, er, h6⟩ => ?_
      subst er
      refine thnF h6 fun _ s7 ⟨y, H7, Y7, r7, ⟨eH, ey⟩, t7, _⟩ => ?_
      subst eH ey
      have J7 := Y7.ofTry J5.ok
      have J7p := J7.pinned (fp := fp) (fun b hb => ⟨nfp b hb, (J7.ok.exf b hb).1, J7.ok.exfs b hb, .inl hb, fun y c e => (J7.ok.exf b hb).2 y c e, fun q hq => by
        have : q = p := by simpa using hq
        rw [this]
        exact npfp b hb⟩) (tu.obj _ _ t7)
      refine thnF (Pg.run _ s7 _ _ _ u (fun σ2 H2' => σ2 = (wipe σ [i0]).set i0 (some (.int (0 + (i : Int)))) ∧ H2' = upd H2 D (.lst ((List.range i).map val))) J7p r7 ⟨rfl, rfl⟩) fun _ s8 ⟨σ8, H8, J8, e8, e8'⟩ => ?_
      subst e8 e8'
      refine wpAny_tests_nil ?_
      rw [if_pos rfl]
      have eσ : (wipe σ [i0]).set i0 (some (V.int (0 + (i : Int)))) = σ.set i0 (some (.int (i : Nat))) := by
        rw [show (wipe σ [i0]).set i0 (some (V.int (0 + (i : Int)))) = σ.set i0 (some (V.int (0 + (i : Int)))) from set_none_set, Int.zero_add]
      rw [eσ] at J8
      have ask8 := turn i hi (upd H2 D (.lst ((List.range i).map val))) (Ex.new frD)
      refine thnF (Pe.run _ s8 _ _ _ J8 ask8) fun z s9 ⟨yv, H9, J9, r9, ev, eH9⟩ => ?_
      subst ev eH9
      refine app_ok (X := X.blk s3 (upd H2 D (.lst [])) scope ce fp) J9 upd_same (by rw [List.length_map, List.length_range]; exact Nat.lt_of_lt_of_le (show i < 1001 by omega) (by decide)) r9 fun s10 J10 => ?_
      refine ⟨left - 1, by omega, i + 1, by omega, ?_, ?_⟩
      · have J11 := (J10.unpinned (pins := [p])).weak (σ' := wipe σ [i0]) (by rw [List.length_set, wipe_length]) fun j v ej => ?_
        · rw [upd_upd] at J11
          rw [List.range_succ, List.map_append]
          exact J11
        · by_cases z : j = i0
          · exfalso
            rw [z] at ej
            have : (σ.set i0 none)[i0]? = some (some v) := ej
            rw [List.getElem?_set] at this
            split at this
            · split at this
              · cases this
              · cases this
            · rename_i q; exact q rfl
          · have : (σ.set i0 none)[j]? = some (some v) := ej
            rw [List.getElem?_set_ne (Ne.symm z)] at this
            rw [List.getElem?_set_ne (Ne.symm z)]
            exact this
      · refine tu.keep _ _ _ t7 fun b hb o e => ?_
        exact (J10.pin (b, o) (List.mem_append_right _ (List.mem_append_right _ (mem_pinsAt hb e)))).1
    · have ei : i = n := by omega
      subst ei
      refine thnF (tu.done ((X.blk s3 (upd H2 D (.lst [])) scope ce fp).tr ((X.blk s3 (upd H2 D (.lst [])) scope ce fp).pn ++ [p]) (X.blk s3 (upd H2 D (.lst [])) scope ce fp).xe) rfl rfl rfl hotY i [] s5 _ _ (fun _ _ => False) Y5 (fpB J5 nfp) t5 (Nat.le_refl _)) fun r s6 ⟨er, Y6⟩ => ?_
      subst er
      have J6 := Y6.ofTry J5.ok
      have I7 : Inv X pins σ (upd H2 D (.lst ((List.range i).map val))) s6 := I3.call' (ch := fp) J6.os J6.base J6.hok J6.bare fun b hb => by
        obtain ⟨⟨_, w1, _, w3, w4, w5⟩, _⟩ := fp3 b hb
        exact ⟨w3, w1, w4, w5⟩
      obtain ⟨m6, ns6, _⟩ := J6.loc
      have fl := J6.free
      replace ns6 : s6.heap.Ns ce.locals m6 := ns6
      replace fl : upd H2 D (.lst ((List.range i).map val)) ce.locals = none := fl
      rw [lce] at ns6 fl
      refine ⟨m6, ns6, fun h7 sb => ?_⟩
      obtain ⟨k0, k1, k2, k3, k4, k5⟩ := I3.fpOk (Nat.le_refl _) fl
      exact ⟨.ref D, _, I7.turned (t' := s6.toks) (fun b o hb e => (sb.2 b hb).trans e) k0 k1 k3 k4 k5, rfl, done D frD⟩
  exact codeAny_compStart_list run (tu.self X.A 0 _ _ _ t4 run)
end
end L2.Z
namespace L2.Z
open PySem PySem.Spec PyProof.Rows
open Evl (Ex)
section
variable {X X' : Cx} {sc scope : Scope} {N R S G B R' G' : List Str} {own : List (Str × Nat)} {σ : St} {H : Hp} {Q : VK} {elt a : Expr} {x0 : Str} {px pr pc pos : Pos}
theorem CkS.ofBlk [C : CkS X sc N R S G B] (h : blkAll N sc scope own R' G' = true) (s : Shared) (H : Hp) (Ca : Addr) (cl : List (Str × Addr)) (fp : List Addr) :
    CkS (X.blk s H scope (compEnvC scope cl Ca X.env) fp) (relS scope sc) N R' (own.map (·.1)) G' B := by
  unfold blkAll at h
  simp only [Bool.and_eq_true] at h
  obtain ⟨⟨⟨_, h2⟩, h3⟩, h4⟩ := h
  have e : (X.blk s H scope (compEnvC scope cl Ca X.env) fp).env.scope = relS scope sc := by rw [← C.sc]; rfl
  refine ⟨e, C.nm, C.nd, by rw [e]; exact visC_ok h2, fun x hx => ?_, fun x hx => ?_, C.blt⟩
  · have q := stoC_ok h3 x hx
    have q2 := relS_sto (sc := sc) q
    refine ⟨by unfold Loc; rw [e, q2]; exact q, ?_⟩
    rcases q with q | q
    · exact .inr (by rw [e, q2, q])
    · exact .inl (show (scope.names.lookup x == some .cell) = true by rw [q]; rfl)
  · have q := gloC_ok h4 x hx
    exact ⟨by unfold Gl Env.kindOf; rw [e]; exact q.1, q.2.1, q.2.2⟩
/-- [elt for x0 in range(a)] where an error is handled; the elements leave the heap alone -/
theorem e_lcH [C : CkS X sc N R S G B] [hc : Hc X] [m : Mm G "range"] [mb : Mm B "range"] (i0 : Nat) (R' G' : List Str) (hb : blkAll N sc scope [(x0, i0)] R' G' = true)
    (q : sE X a σ H fun v H1 => ∃ (n : Nat) (val : Nat → V), v = .int (n : Nat) ∧ n ≤ 1000 ∧ (∀ i, i < n → ∀ (X' : Cx) (Hc : Hp), SubS X X' → CkS X' (relS scope sc) N R' [x0] G' B → Ex H1 Hc → ∃ σ2, Put N σ x0 (.int (i : Nat)) σ2 ∧ sE X' elt σ2 Hc fun y H4 => y = val i ∧ H4 = Hc) ∧ ∀ D H', New H1 D (.lst ((List.range n).map val)) H' → Q (.ref D) H')
    (hst : starEach [a] X.env = [(false, eval a X.env)] := by rfl) (hs : ∀ x, foldedSetIterable (.Call (.Name "range" pr) [a] [] pc) X.env x = pure x := by intro _; rfl) :
    sE X (.ListComp elt [⟨.Name x0 px, .Call (.Name "range" pr) [a] [] pc, [], 0⟩] scope pos) σ H Q := by
  have nd := C.nd
  rw [C.nm] at nd
  have bo : BlkOk X.N X.env.scope scope [(x0, i0)] := by
    have h := hb
    unfold blkAll at h
    simp only [Bool.and_eq_true] at h
    rw [C.nm, C.sc]
    exact blkOk_by h.1.1.1
  refine oE (pe_lcH (i0 := i0) (te := fun σ H Q => ∀ X', SubS X X' → CkS X' (relS scope sc) N R' [x0] G' B → sE X' elt σ H Q) hc.hot C.nd (L2H.pi_range1H (C.glo _ m.mem).1 (C.blt _ mb.mem) (pa_cons pE pa_nil hst) hst) bo (fun s H Ca cl fp => ?_) (fun s H0 Ca cl fp => ⟨fun pins s' σ H Q I h => (h (X.blk s H0 scope (compEnvC scope cl Ca X.env) fp) ⟨rfl, rfl, rfl⟩ (CkS.ofBlk (own := [(x0, i0)]) hb s H0 Ca cl fp)).run pins s' I⟩) hs) ?_
  · have c := CkS.ofBlk (X := X) (own := [(x0, i0)]) hb s H Ca cl fp
    obtain ⟨k1, k2⟩ := c.sto x0 (List.Mem.head _)
    exact pg_name c.nd (by rw [c.nm]; exact ix_own hb) k1 k2
  · refine sE_mono (fun v H1 h => ?_) q
    obtain ⟨n, val, rfl, hn, turn, done⟩ := h
    refine ⟨(n : Int), rfl, by omega, by omega, n, val, by rw [Int.toNat_natCast], hn, fun i hi Hc ex X' s c => ?_, fun D hD => done D _ (New.mk' hD)⟩
    obtain ⟨σ2, pu, k⟩ := turn i hi X' Hc s c ex
    rw [← pu.eq nd (ix_own hb)]
    exact k
end
end L2.Z
namespace L2.Z
open PySem PySem.Spec PyProof.Rows LamX NdefX
open Evl (Ex)
/-! ### lambdas as values -/
/-- the object at f is a lambda: F tells its words but the body, b is the body -/
def LamO (f : Addr) (F : NF) (b : Expr) : HO := .ext fun h => ∃ pm ctv : Value, h.get? f = some (PySem.W.kla_obj "<lambda>" F.qual F.params b F.scope F.cl pm F.c ctv)
theorem lamO_at {P : Program} {w : World} {H : Hp} {h : Heap} {f : Addr} {F : NF} {b : Expr} (hok : HOk P w H h) (e : H f = some (LamO f F b)) : ∃ pm ctv : Value, h.get? f = some (PySem.W.kla_obj "<lambda>" F.qual F.params b F.scope F.cl pm F.c ctv) := by
  obtain ⟨z, _⟩ := hok f _ e
  exact z
section
variable {X : Cx} {pins : List (Addr × Obj)} {σ : L2.St} {H : Hp} {s : Shared}
theorem inv_lam {F : NF} {b : Expr} {pm ctv : Value} {tk : Nat} (I : Inv X pins σ H s) :
    Inv X pins σ (upd H s.heap.objs.size (LamO s.heap.objs.size F b)) { s with heap := s.heap.push (PySem.W.kla_obj "<lambda>" F.qual F.params b F.scope F.cl pm F.c ctv), toks := tk } := by
  have q : (s.heap.push (PySem.W.kla_obj "<lambda>" F.qual F.params b F.scope F.cl pm F.c ctv)).get? s.heap.objs.size = some (PySem.W.kla_obj "<lambda>" F.qual F.params b F.scope F.cl pm F.c ctv) := Heap.get?_push_size _ rfl
  exact I.laid (a := s.heap.objs.size) (fun _ _ e => Heap.get?_push_of_some _ e) (Nat.le_refl _) ⟨⟨pm, ctv, q⟩, ⟨_, q⟩, fun _ _ ⟨p1, c1, z⟩ st => ⟨p1, c1, st _ z⟩⟩
/-- a lambda is made and kept in sight -/
theorem lam_makeT {T : List (Addr × Str)} {c P : Addr} {params : Arguments} {body : Expr} {scope : Scope} {pos : Pos} {E : Value → Shared → Prop} {Q : Value → Shared → Prop} (I : Inv X pins σ H s) (tb : TabB X.base X.mg c P) (ec : X.env.code = .ref c)
    (mT : (P, X.env.qual ++ "<lambda>") ∈ T) (uT : ∀ p ∈ T, p.1 = P → p.2 = X.env.qual ++ "<lambda>") (tabs : Tabs T H) (dfl : defaultsOf params X.env = ([], [])) (seen : ∀ y ∈ scope.names, y.2 = .free → ∃ c, X.env.cells.lookup y.1 = some c)
    (k : ∀ (f c' : Addr) (H1 : Hp) (s' : Shared), Inv X pins σ H1 s' → ExtN H H1 → (∀ b, H1 b = none → H b = none) → Tabs T H1 → H f = none → H1 f = some (LamO f ⟨"<lambda>", X.env.qual ++ "<lambda>", params, [], scope, cloFrom X.env.cells scope.names [], c'⟩ body) → H1 c' = some (CodeO c' (X.env.qual ++ "<lambda>")) → Q (.ref f) s') :
    wpAny (model X.prog X.w) X.A (eval (.Lambda params body scope pos) X.env) Q E s := by
  obtain ⟨ps, atP, tri, told⟩ := tabs _ mT
  have bltP : s.heap.BuiltinsAt X.mg P := tb.bm.keeps I.bk
  have getP : s.heap.get? P = some { cls := .none, data := .fields ps } := I.hok P _ atP
  refine PySem.W.kla_eval dfl ?_
  cases among : codeAmong pos ps.toList with
  | some cv =>
    obtain ⟨c', rfl, co⟩ := told pos cv among
    refine PySem.W.kla_makeFunctionHit (mg := X.mg) (c := c) (P := P) (ps := ps) (closure_ok seen) I.ok.glob (I.mod.glob.keeps I.bk) ec (tb.code.keeps I.bk) getP tri among bltP fun ctv h' tk keep lt => ?_
    have J : Inv X pins σ H { s with heap := h', toks := tk } := I.kept keep
    have fr : H h'.objs.size = none := J.hok.fresh (Nat.le_refl _)
    have J2 := inv_lam (F := ⟨"<lambda>", X.env.qual ++ "<lambda>", params, [], scope, cloFrom X.env.cells scope.names [], c'⟩) (b := body) (pm := (X.mg "__name__").getD .none) (ctv := ctv) (tk := tk) J
    have up : ∀ b o, H b = some o → upd H h'.objs.size (LamO h'.objs.size ⟨"<lambda>", X.env.qual ++ "<lambda>", params, [], scope, cloFrom X.env.cells scope.names [], c'⟩ body) b = some o := fun b o e => (upd_ne (ne_of_none e fr)).trans e
    exact k h'.objs.size c' _ _ J2 (ExtN.of up) (fun b e => upd_none e) (Tabs.ext tabs up) fr upd_same (up _ _ co)
  | none =>
    refine PySem.W.kla_makeFunction (mg := X.mg) (c := c) (P := P) (ps := ps) (closure_ok seen) I.ok.glob (I.mod.glob.keeps I.bk) ec (tb.code.keeps I.bk) getP tri among tb.gP bltP fun c' ctv h' tk keep ge lt rec_ tabl => ?_
    obtain ⟨c2, oc, vs, t, e2, o1, o2, o3⟩ := rec_
    cases e2
    have frC : H c' = none := I.hok.fresh ge
    have J := inv_table (t' := tk) (more := #[rawInt pos.line, rawInt pos.col, .ref c']) (h' := h') I atP (fun b o hb e => keep b o hb e) tabl ge ⟨oc, vs, t, o1, o2, o3⟩
    have up0 : ExtN H (upd (upd H P (.tbl (ps ++ #[rawInt pos.line, rawInt pos.col, .ref c']))) c' (CodeO c' (X.env.qual ++ "<lambda>"))) := fun b o e n => by
      rw [upd_ne (ne_of_none e frC), upd_ne fun z => n ps (by rw [z, atP] at e; exact (Option.some.inj e).symm)]
      exact e
    have app : (ps ++ #[rawInt pos.line, rawInt pos.col, .ref c']).toList = ps.toList ++ [rawInt pos.line, rawInt pos.col, .ref c'] := by simp
    have tabs1 : Tabs T (upd (upd H P (.tbl (ps ++ #[rawInt pos.line, rawInt pos.col, .ref c']))) c' (CodeO c' (X.env.qual ++ "<lambda>"))) := fun p hp => by
      by_cases hb : p.1 = P
      · have hq := uT p hp hb
        obtain ⟨p1, p2⟩ := p
        dsimp only at hb hq ⊢
        subst hb hq
        refine ⟨_, (upd_ne (ne_of_none atP frC)).trans upd_same, by rw [app]; exact PySem.TriplesOk_snoc _ _ _ _ tri, fun p' cv hcv => ?_⟩
        rw [app] at hcv
        rcases among_app _ tri hcv with z | z
        · obtain ⟨c0, z1, z2⟩ := told p' cv z
          exact ⟨c0, z1, up0 _ _ z2 codeO_ne⟩
        · exact ⟨c', z, upd_same⟩
      · obtain ⟨ps', a1, a2, a3⟩ := tabs p hp
        refine ⟨ps', ?_, a2, fun p' cv hcv => ?_⟩
        · rw [upd_ne (ne_of_none a1 frC), upd_ne hb]
          exact a1
        · obtain ⟨c0, z1, z2⟩ := a3 p' cv hcv
          exact ⟨c0, z1, up0 _ _ z2 codeO_ne⟩
    have frF := J.hok.fresh (Nat.le_refl _)
    have J2 := inv_lam (F := ⟨"<lambda>", X.env.qual ++ "<lambda>", params, [], scope, cloFrom X.env.cells scope.names [], c'⟩) (b := body) (pm := (X.mg "__name__").getD .none) (ctv := ctv) (tk := tk) J
    refine k h'.objs.size c' _ _ J2 (fun b o e n => ?_) (fun b e => upd_none (upd_none (upd_none e))) (Tabs.ext tabs1 fun b o e => (upd_ne (ne_of_none e frF)).trans e) (I.hok.fresh (Nat.le_trans ge (Nat.le_of_lt lt))) upd_same ((upd_ne (Nat.ne_of_lt lt)).trans upd_same)
    have z := up0 b o e n
    exact (upd_ne (ne_of_none z frF)).trans z
end
/-- the promise of a lambda: sp ws, ws what its captured cells hold -/
structure LamOk (P : Program) (w : World) (K : PySem.W.Frag) (mg : Str → Option Value) (base : Heap) (k : Nat) (f : Addr) (F : NF) (b : Expr) (fr : List Str) (sp : List (Option V) → Sp) : Prop where
  run : ∀ (A : Around) (outer : List Env) (s : Shared) (H : Hp) (us : List Value) (vs : List V) (ws : List (Option V)) (Q : VK) (E : XK), Room k A → Env0 P w K mg base A outer s H → H f = some (LamO f F b) → H F.c = some (CodeO F.c F.qual) →
    CellsAt F.cl fr ws s.heap H → Vals vs us → sp ws vs H Q E → codeAny (model P w) A (.call (.ref f) ⟨us, []⟩) (CR (L2N.CX P w) outer P w H s Q E) s
/-- a lambda by its body -/
theorem lamOk_of {P : Program} {w : World} {K : PySem.W.Frag} {mg : Str → Option Value} {base : Heap} {N ps fr : List Str} {F : NF} {f : Addr} {b : Expr} {k : Nat} {sp : List (Option V) → Sp} (S : NScope N ps fr F.scope)
    (bind : ∀ (pm ctv : Value) (us : List Value), us.length = ps.length → bindArgs (PySem.W.kla_fn "<lambda>" F.qual F.params b F.scope F.cl pm (.ref F.c) ctv) ⟨us, []⟩ = pure (ps.zip us)) (len : ∀ ws vs H Q E, sp ws vs H Q E → vs.length = ps.length)
    (body : ∀ (A : Around) (outer : List Env) (s : Shared) (H : Hp) (vs : List V) (ws : List (Option V)) (Q : VK) (E : XK), Room k (A.deeper (envF F f s.heap.objs.size)) → ws.length = fr.length → sp ws vs H Q E → sE (ncx (L2N.CX P w) P w K mg base N F f A outer s H E) b (startF N vs ws) H Q) :
    LamOk P w K mg base (k + 1) f F b fr sp := by
  refine ⟨fun A outer s H us vs ws Q E hr e0 atf atc cells r ask => ?_⟩
  have lv := len _ _ _ _ _ ask
  obtain ⟨pm, ctv, getf⟩ := lamO_at e0.hok atf
  have nol : s.heap.NoLimit := e0.mod.nolimit.keeps fun b o e => (e0.bs b o e).1
  refine PySem.W.kla_callFunE hr.depth getf rfl S.co S.gen rfl (codeO_at e0.hok atc) ?_
  rw [bind pm ctv us (r.length.symm.trans lv)]
  refine wpAny_pure (wpAny_newFunctionEnv S.nocell (fun ⟨n, _⟩ hy => S.par n (List.of_mem_zip hy).1) (fun h1 ns same => ⟨nol.fresh _ same, ?_⟩) S.kind)
  show codeAny _ _ (.expr b (envF F f s.heap.objs.size)) _ _
  have keep : ∀ a o, s.heap.get? a = some o → h1.get? a = some o := fun a o e => same.extBut a o (Nat.ne_of_lt (Heap.lt_size e)) (Heap.get?_push_of_some _ e)
  have J : Inv (ncx (L2N.CX P w) P w K mg base N F f A outer s H E) [] (startF N vs ws) H { s with heap := h1, toks := s.toks + (ps.zip us).length } := inv_startN S hr.hd e0 lv r cells ns keep
  refine PySem.W.kla_codeExpr (wpAny_mono ((body A outer s H vs ws Q E (hr.deeper _) cells.len ask).run [] _ J) (fun v s' ⟨x, H', J', rv, q⟩ => ?_) fun e s' q => q)
  exact ⟨x, H', J'.os, J'.bare, J'.base, J'.hok, rv, q⟩
end L2.Z
namespace L2.Z
open PySem PySem.Spec PyProof.Rows LamX NdefX
open Evl (Ex)
/-! ### the heap but for the tables of code objects -/
def strip (H : Hp) : Hp := fun b => match H b with
  | some (.tbl _) => none
  | o => o
section
variable {H H1 H' : Hp} {a : Addr} {o : HO} {xs : List V} {v : V} {k : Kd}
theorem strip_ex : Ex (strip H) H := fun b u h => by
  unfold strip at h
  cases e : H b with
  | none => rw [e] at h; cases h
  | some z =>
    rw [e] at h
    cases z <;> first | (exact h) | (cases h)
theorem strip_of (h : H a = some o) (n : ∀ ps, o ≠ .tbl ps) : strip H a = some o := by
  unfold strip
  rw [h]
  cases o <;> first | rfl | exact absurd rfl (n _)
theorem strip_nt (h : strip H a = some o) : ∀ ps, o ≠ .tbl ps := fun ps z => by
  unfold strip at h
  cases e : H a with
  | none => rw [e] at h; cases h
  | some u =>
    rw [e] at h
    cases u <;> first | (have h : some _ = some o := h; cases h; cases z) | (cases h)
theorem strip_extN (e : ExtN H H1) : Ex (strip H) (strip H1) := fun b u h => strip_of (e b u (strip_ex b u h) (strip_nt h)) (strip_nt h)
theorem strip_up (e : Ex H H1) : Ex (strip H) (strip H1) := strip_extN (ExtN.of e)
/-- nothing of a table -/
def Nt (G : Hp) : Prop := ∀ b o, G b = some o → ∀ ps, o ≠ .tbl ps
theorem nt_strip : Nt (strip H) := fun _ _ h => strip_nt h
theorem Nt.ex {G : Hp} (n : Nt G) (e : Ex G H) (x : ExtN H H1) : Ex G H1 := fun b o h => x b o (e b o h) (n b o h)
theorem Nt.st {G : Hp} (n : Nt G) (e : Ex G H) : Ex G (strip H) := fun b o h => strip_of (e b o h) (n b o h)
instance At.stripL [h : At H a (.lst xs)] : At (strip H) a (.lst xs) := ⟨strip_of h.h fun _ z => by cases z⟩
instance At.stripT [h : At H a (.tup xs)] : At (strip H) a (.tup xs) := ⟨strip_of h.h fun _ z => by cases z⟩
theorem KdV.strip (h : KdV H v k) : KdV (strip H) v k := by
  cases h with
  | int i => exact .int i
  | bl i => exact .bl i
  | non => exact .non
  | str i => exact .str i
  | lst h => exact .lst (strip_of h fun _ z => by cases z)
  | tup h => exact .tup (strip_of h fun _ z => by cases z)
  | dct h => exact .dct (strip_of h fun _ z => by cases z)
end
/-- a lambda is new -/
class LamN (H : Hp) (f : Addr) (F : NF) (b : Expr) (H1 : Hp) : Prop where
  ext : ExtN H H1
  back : ∀ b, H1 b = none → H b = none
  fr : H f = none
  at_ : H1 f = some (LamO f F b)
  co : H1 F.c = some (CodeO F.c F.qual)
theorem lamO_ne {f : Addr} {F : NF} {b : Expr} (ps : Array Value) : LamO f F b ≠ .tbl ps := fun z => by unfold LamO at z; cases z
/-- in X lambdas can be made -/
class Lm (X : Cx) (T : outParam (List (Addr × Str))) : Prop where
  ex : ∃ c P, TabB X.base X.mg c P ∧ X.env.code = .ref c ∧ (P, X.env.qual ++ "<lambda>") ∈ T ∧ ∀ p ∈ T, p.1 = P → p.2 = X.env.qual ++ "<lambda>"
def noFree (scope : Scope) : Bool := scope.names.all fun y => !decide (y.2 = .free)
theorem clo_nil {cells : List (Str × Addr)} {scope : Scope} (h : noFree scope = true) : cloFrom cells scope.names [] = [] := by
  cases e : cloFrom cells scope.names [] with
  | nil => rfl
  | cons p r =>
    have hm : p ∈ cloFrom cells scope.names [] := by rw [e]; exact List.mem_cons_self
    rcases cloFrom_mem (n := p.1) (c := p.2) hm with z | ⟨z, _⟩
    · cases z
    · have q := List.all_eq_true.mp h _ z
      simp at q
section
variable {X X' : Cx} {sc scope : Scope} {N R S G B : List Str} {σ : St} {H : Hp} {Q : VK} {T : List (Addr × Str)} {params : Arguments} {body e : Expr} {pos p : Pos} {x : Str} {f : Addr} {F : NF} {b : Expr} {W : WX} {k : Nat}
/-- a lambda that captures nothing -/
theorem e_lam [L : Lm X T] (tabs : Tabs T H) (q : ∀ (f c' : Addr) (H1 : Hp), Tabs T H1 → LamN H f ⟨"<lambda>", X.env.qual ++ "<lambda>", params, [], scope, [], c'⟩ body H1 → Q (.ref f) H1)
    (nf : noFree scope = true := by decide +kernel) (dfl : defaultsOf params X.env = ([], []) := by rfl) : sE X (.Lambda params body scope pos) σ H Q := by
  obtain ⟨c, P, tb, ec, mT, uT⟩ := L.ex
  refine ⟨fun pins s I => lam_makeT I tb ec mT uT tabs dfl (fun y hy e => ?_) fun f c' H1 s' I1 ext back t1 fr at_ co => ?_⟩
  · have z := List.all_eq_true.mp nf y hy
    rw [decide_eq_true e] at z
    cases z
  · rw [clo_nil nf] at at_
    exact ⟨.ref f, H1, I1, rfl, q f c' H1 t1 ⟨ext, back, fr, at_, co⟩⟩
theorem cells_nil {h : Heap} : CellsAt [] [] [] h H := ⟨rfl, fun _ _ e => by simp at e, fun _ _ _ e => by simp at e, fun i y e => by simp at e⟩
/-- x(e), the local x holds a lambda -/
theorem e_ask [C : Ck X sc N R S G B] [m : Mm R x] [h : Has N σ x (.ref f)] [t : Tk X W] {fr : List Str} {sp : List (Option V) → Sp} (ok : LamOk X.prog X.w X.K X.mg X.base k f F b fr sp) (hr : Room k X.A) (ws : List (Option V))
    (q : sE X e σ H fun v H1 => H1 f = some (LamO f F b) ∧ H1 F.c = some (CodeO F.c F.qual) ∧ (∀ pins s, Inv X pins σ H1 s → CellsAt F.cl fr ws s.heap H1) ∧ sp ws [v] H1 Q (fun cls d H' => W cls d σ H'))
    (he : starEach [e] X.env = (false, eval e X.env) :: starEach [] X.env := by rfl) (hpl : (backTo pos (starEach [] X.env)).any (·.1) = false := by rfl) (hf0 : H f = some (LamO f F b)) : sE X (.Call (.Name x p) [e] [] pos) σ H Q := by
  obtain ⟨i, h1, h2⟩ := h.ix
  obtain ⟨k1, k2, k3⟩ := C.vis x m.mem
  refine ⟨fun pins s I => ?_⟩
  refine wpAny_Call_Name_kw (thn ((pe_var (pos := p) (i := i) (by rw [C.nm]; exact h1) k1 k2 k3).run pins s σ H (fun v H1 => v = .ref f ∧ H1 = H) I ⟨.ref f, h2, rfl, rfl⟩) fun u s1 ⟨v, H1, I1, r1, ev, eH⟩ => ?_)
  subst ev eH
  obtain rfl : u = Value.ref f := r1
  obtain ⟨pm0, ct0, g0⟩ := lamO_at I1.hok hf0
  refine PySem.W.callWith_F ⟨_, _, _, _, g0⟩ ?_ he hpl
  rw [he]
  refine Calls.spliced_cons (thn (q.run pins s1 I1) fun u2 s2 ⟨v2, H2, I2, r2, at2, co2, ce2, q2⟩ => ?_)
  obtain ⟨pm, ct, g2⟩ := lamO_at I2.hok at2
  refine Calls.spliced_nil ⟨⟨_, _, _, _, g2⟩, ?_⟩
  refine wpAny_call (codeAny_mono (ok.run X.A X.stack s2 H2 [u2] [v2] ws Q _ hr I2.env0 at2 co2 (ce2 pins s2 I2) (.cons r2 .nil) q2) fun r s3 hq => ?_)
  cases r with
  | error e => exact L2N.passAt t.tk σ pins H2 s2 e s3 I2 hq
  | ok fl =>
    cases fl with
    | ret u => exact I2.after hq
    | next => exact False.elim hq
    | brk => exact False.elim hq
    | cont => exact False.elim hq
end
/-! ### a lambda by its body, over a context that is a letter -/
def lamC (sc : Scope) (N ps fr R G : List Str) : Bool := nscB N ps fr sc && (visC sc R && gloC sc G)
theorem Ck.ofLam {X : Cx} {sc : Scope} {N ps fr R G B : List Str} (h : lamC sc N ps fr R G = true) (h1 : X.env.scope = sc) (h2 : X.N = N) (h3 : X.calm = true) (hB : ∀ x ∈ B, X.mg x = none) : Ck X sc N R [] G B := by
  obtain ⟨a1, h⟩ := (Bool.and_eq_true _ _).mp h
  obtain ⟨a2, a3⟩ := (Bool.and_eq_true _ _).mp h
  have S := nscope_by a1
  refine ⟨h1, h2, by rw [h2]; exact S.nd, h3, by rw [h1]; exact visC_ok a2, (fun x hx => absurd hx (List.not_mem_nil)), fun x hx => ?_, hB⟩
  have q := gloC_ok a3 x hx
  exact ⟨by unfold Gl Env.kindOf; rw [h1]; exact q.1, q.2.1, q.2.2⟩
section
variable {P : Program} {w : World} {K : PySem.W.Frag} {mg : Str → Option Value} {base : Heap}
theorem okL {N ps fr R G B : List Str} {F : NF} {f : Addr} {b : Expr} {k : Nat} {sp : List (Option V) → Sp} (hc : lamC F.scope N ps fr R G = true) (hB : ∀ y ∈ B, mg y = none)
    (bind : ∀ (pm ctv : Value) (us : List Value), us.length = ps.length → bindArgs (PySem.W.kla_fn "<lambda>" F.qual F.params b F.scope F.cl pm (.ref F.c) ctv) ⟨us, []⟩ = pure (ps.zip us)) (len : ∀ ws vs H Q E, sp ws vs H Q E → vs.length = ps.length)
    (body : ∀ X : Cx, Bd P w K mg base k X → Ck X F.scope N R [] G B → ∀ ws vs H Q E, Tk X (fun cls d _ H => E cls d H) → ws.length = fr.length → sp ws vs H Q E → sE X b (startF N vs ws) H Q) : LamOk P w K mg base (k + 1) f F b fr sp := by
  obtain ⟨a1, _⟩ := (Bool.and_eq_true _ _).mp hc
  refine lamOk_of (nscope_by a1) bind len fun A outer s H vs ws Q E hr hw ask => ?_
  have bd : Bd P w K mg base k (ncx (L2N.CX P w) P w K mg base N F f A outer s H E) :=
    ⟨fun {y ps sp j} h hj => ⟨j, ps, h, hr.mono hj⟩, fun {y v} h => ⟨h⟩, rfl, rfl, Ru.of hr, ⟨passes_of rfl⟩, hr, rfl, rfl, rfl, rfl, rfl⟩
  exact body _ bd (Ck.ofLam hc rfl rfl rfl hB) ws vs H Q E ⟨L2N.takes_of rfl rfl rfl rfl⟩ hw ask
/-- a def that makes lambdas: its code object is told -/
theorem okDC {x : Str} {st : Stmt} {N ps R G B : List Str} {k : Nat} {sp : Sp} {f : Addr} {fd : FuncData} (F : FunD K x x (defArgs st) (defBody st) (defScope st) [] [] f fd) (ef : f = He.fAd K (x, none)) (d : DefOk (defScope st) N ps R G) (hB : ∀ y ∈ B, mg y = none) (len : ∀ vs H Q E, sp vs H Q E → vs.length = ps.length)
    (body : ∀ X : Cx, Bd P w K mg base k X → Ck X (defScope st) N R R G B → X.env.code = .ref (He.codeOf K (x, none)) → X.env.qual = x ++ ".<locals>." → ∀ vs H Q E, L2N.Takes X (fun cls d _ H => E cls d H) → sp vs H Q E →
      sB X (defBody st) { nx := fun _ H' => Q .non H', rt := Q } (start N vs) H) : FnOk P w K mg base (L2N.CX P w) (k + 1) f fd ps sp := by
  obtain ⟨oc, od, dV, kV, doc, pm, an, cdv, ct, osl, rfl, lk, hcd, _, _⟩ := F.ex
  obtain ⟨c, rfl⟩ := He.codeIn_ref hcd
  refine fn_of lk hcd d.fs len fun A outer s H vs Q E hr hsp => ⟨_, pB, ?_⟩
  have bd : Bd P w K mg base k (cxOf (L2N.CX P w) P w K mg base N x (defScope st) f (.ref c) A outer s H E) :=
    ⟨fun {y ps sp j} h hj => ⟨j, ps, h, hr.mono hj⟩, fun {y v} h => ⟨h⟩, rfl, rfl, Ru.of hr, ⟨passes_of rfl⟩, hr, rfl, rfl, rfl, rfl, rfl⟩
  subst ef
  exact body _ bd (Ck.ofDef d rfl rfl rfl rfl hB) (by rw [He.codeOf_eq lk rfl]; rfl) rfl vs H Q E (L2N.takes_of rfl rfl rfl rfl) hsp
theorem Bd.lm {k : Nat} {X : Cx} {c Pt : Addr} {q : Str} {T : List (Addr × Str)} (bd : Bd P w K mg base k X) (tb : TabB base mg c Pt) (ec : X.env.code = .ref c) (eq : X.env.qual = q) (mT : (Pt, q ++ "<lambda>") ∈ T) (uT : ∀ p ∈ T, p.1 = Pt → p.2 = q ++ "<lambda>") : Lm X T :=
  ⟨c, Pt, by rw [bd.base, bd.mg]; exact tb, ec, by rw [eq]; exact mT, by rw [eq]; exact uT⟩
end
/-! ### the law's end, with tables -/
theorem walk_ofTE {l : PySem.W.OpenLaw} {n k : Nat} {q : Program} {loose : List Str} {XP : (Str → Option Value) → Heap → Prop} {YP : World → Heap → Prop} {d : DefRec} {CX : World → CXT} {x : Str}
    (hn : l.most = some n) (hn2 : n ≤ sizeLine) (hdf : d.params.defaults = []) (hr : Room k callerA)
    (F : ∀ (w : World) (mg : Str → Option Value) (fa : Addr) (h : Heap), YP w h → h.Ns mainGlobals mg → mg d.name = some (.ref fa) → ∃ K : PySem.W.Frag, K.In h ∧ LawAtS l w K (CX w) k n x mg fa h)
    (hCX : ∀ (w : World) (H : Hp) (s : Shared) (e : Value) (s' : Shared), CX w [] H s (fun _ _ _ => False) e s' → False) :
    PySem.W.WalkO q loose XP YP l.row.toRowW d [] (fun f vs => PySem.call f vs) := by
  refine Att.attach_callB hn hdf fun w s₀ s₁ mg mb fa o pm cd doc a vs ns gl Y ho hd hcd hmg hobj hints hlen hbits hg => ?_
  obtain ⟨K, KX, fd, cs, sp, t1, t2, t3, hb, ask, run⟩ := F w mg fa _ Y gl.T.g hmg
  exact law_callTs KX gl.T.g gl.T.b gl.T.builtins gl.T.nolimit hg t1 t2 t3 gl.T.bmain hobj hints (Nat.le_trans hlen hn2) hr run hb (fun H hH hS => ask H a ns hlen hbits hH hS) fun H e s' => hCX w H s₁ e s'
end L2.Z
namespace L2.Z
open PySem PySem.Spec PyProof.Rows LamX NdefX
open Evl (Ex)
/-! ### tables and lambdas, by classes -/
class Tb (T : outParam (List (Addr × Str))) (H : Hp) : Prop where
  tb : Tabs T H
class ExN (H H' : Hp) : Prop where
  ex : ExtN H H'
class UpN (H : outParam Hp) (H' : Hp) : Prop where
  ex : ExtN H H'
theorem ExtN.refl {H : Hp} : ExtN H H := fun _ _ h _ => h
theorem ExtN.trans {H H1 H2 : Hp} (a : ExtN H H1) (b : ExtN H1 H2) : ExtN H H2 := fun x o h n => b x o (a x o h n) n
section
variable {T : List (Addr × Str)} {H H1 H' : Hp} {f a : Addr} {F : NF} {b : Expr} {xs : List V} {v : V} {k : Kd}
instance (priority := low) Tb.up [u : Up H H'] [t : Tb T H] : Tb T H' := ⟨Tabs.ext t.tb u.ex⟩
instance (priority := high) ExN.refl : ExN H H := ⟨ExtN.refl⟩
instance ExN.up [u : Up H1 H'] [e : ExN H H1] : ExN H H' := ⟨e.ex.trans (ExtN.of u.ex)⟩
set_option synthInstance.checkSynthOrder false in
instance UpN.lam [u : LamN H f F b H'] : UpN H H' := ⟨u.ext⟩
instance ExN.lam [u : UpN H1 H'] [e : ExN H H1] : ExN H H' := ⟨e.ex.trans u.ex⟩
instance At.lamL [u : UpN H H'] [h : At H a (.lst xs)] : At H' a (.lst xs) := ⟨u.ex _ _ h.h fun _ z => by cases z⟩
instance At.lamT [u : UpN H H'] [h : At H a (.tup xs)] : At H' a (.tup xs) := ⟨u.ex _ _ h.h fun _ z => by cases z⟩
instance At.lamD {kvs : List (Key × V)} [u : UpN H H'] [h : At H a (.dK kvs)] : At H' a (.dK kvs) := ⟨u.ex _ _ h.h fun _ z => by cases z⟩
theorem ExtN.l (e : ExtN H H') (h : H a = some (.lst xs)) : H' a = some (.lst xs) := e _ _ h fun _ z => by cases z
theorem KdV.upN (e : ExtN H H') (h : KdV H v k) : KdV H' v k := by
  cases h with
  | int i => exact .int i
  | bl i => exact .bl i
  | non => exact .non
  | str i => exact .str i
  | lst h => exact .lst (e _ _ h fun _ z => by cases z)
  | tup h => exact .tup (e _ _ h fun _ z => by cases z)
  | dct h => exact .dct (e _ _ h fun _ z => by cases z)
end
section
variable {X : Cx} {scope : Scope} {σ : St} {H : Hp} {Q : VK} {T : List (Addr × Str)} {params : Arguments} {body : Expr} {pos : Pos}
theorem e_dct (q : ∀ p H', New H p (.dK []) H' → Q (.ref p) H') : sE X (.Dict [] [] pos) σ H Q := oE pe_dnewK fun p hp => q p _ (New.mk' hp)
theorem e_lamT [L : Lm X T] [t : Tb T H] (q : ∀ (f c' : Addr) (H1 : Hp), Tb T H1 → LamN H f ⟨"<lambda>", X.env.qual ++ "<lambda>", params, [], scope, [], c'⟩ body H1 → Q (.ref f) H1)
    (nf : noFree scope = true := by decide +kernel) (dfl : defaultsOf params X.env = ([], []) := by rfl) : sE X (.Lambda params body scope pos) σ H Q :=
  e_lam t.tb (fun f c' H1 t1 l1 => q f c' H1 ⟨t1⟩ l1) nf dfl
end
/-! ### the heap but for one object -/
def wipe (H : Hp) (p : Addr) : Hp := fun b => if b = p then none else H b
section
variable {H H' : Hp} {p a : Addr} {o : HO}
theorem wipe_ex : Ex (wipe H p) H := fun b u h => by
  unfold wipe at h
  by_cases e : b = p
  · rw [if_pos e] at h; cases h
  · rw [if_neg e] at h; exact h
theorem wipe_ne (h : H a = some o) (n : a ≠ p) : wipe H p a = some o := by unfold wipe; rw [if_neg n]; exact h
theorem wipe_upd : wipe (upd H p o) p = wipe H p := by
  funext b
  unfold wipe
  by_cases e : b = p
  · rw [if_pos e, if_pos e]
  · rw [if_neg e, if_neg e, upd_ne e]
theorem wipe_of (e : Ex H H') (n : H p = none) : Ex H (wipe H' p) := fun b u h => wipe_ne (e b u h) fun z => by rw [z, n] at h; cases h
theorem wipe_mono (e : Ex H H') : Ex (wipe H p) (wipe H' p) := fun b u h => by
  by_cases z : b = p
  · unfold wipe at h; rw [if_pos z] at h; cases h
  · exact wipe_ne (e b u (wipe_ex b u h)) z
end
/-- one argument, refused with C -/
def spBad (Bad : Hp → V → Prop) (C : Addr) : Sp := fun vs H _ E => ∃ v, vs = [v] ∧ Bad H v ∧ ∀ H', Up H H' → E (.ref C) none H'
/-- at f a lambda that refuses all Bad with C -/
structure Ask (P : Program) (w : World) (K : PySem.W.Frag) (mg : Str → Option Value) (base : Heap) (H : Hp) (f : Addr) (Bad : Hp → V → Prop) (C : Addr) : Prop where
  ex : ∃ (F : NF) (b : Expr), H f = some (LamO f F b) ∧ H F.c = some (CodeO F.c F.qual) ∧ F.cl = [] ∧ LamOk P w K mg base 5 f F b [] (fun _ => spBad Bad C)
section
variable {P : Program} {w : World} {K : PySem.W.Frag} {mg : Str → Option Value} {base : Heap} {H H' : Hp} {f C : Addr} {Bad : Hp → V → Prop}
theorem Ask.up (h : Ask P w K mg base H f Bad C) (e : Ex H H') : Ask P w K mg base H' f Bad C := by
  obtain ⟨F, b, h1, h2, h3, h4⟩ := h.ex
  exact ⟨F, b, e _ _ h1, e _ _ h2, h3, h4⟩
theorem Ask.now [e : ExN H H'] (h : Ask P w K mg base H f Bad C) : Ask P w K mg base H' f Bad C := by
  obtain ⟨F, b, h1, h2, h3, h4⟩ := h.ex
  exact ⟨F, b, e.ex _ _ h1 lamO_ne, e.ex _ _ h2 codeO_ne, h3, h4⟩
/-- a lambda of one parameter x, by its body -/
theorem okA {nm qu : Str} {pa : Arguments} {bo : List Stmt} {sc : Scope} {cc : Addr} {b : Expr} {B : List Str} (x : Str) (G : List Str) (ln : LamN H f ⟨nm, qu, pa, bo, sc, [], cc⟩ b H') (hc : lamC sc [x] [x] [] [x] G = true) (hB : ∀ y ∈ B, mg y = none)
    (bind : ∀ (pm ctv : Value) (u : Value), bindArgs (PySem.W.kla_fn "<lambda>" qu pa b sc [] pm (.ref cc) ctv) ⟨[u], []⟩ = pure [(x, u)])
    (body : ∀ X : Cx, Bd P w K mg base 4 X → Ck X sc [x] [x] [] G B → ∀ (v : V) (H : Hp) (Q : VK) (E : XK), Tk X (fun cls d _ H => E cls d H) → Bad H v → (∀ H', Up H H' → E (.ref C) none H') → sE X b [some v] H Q) : Ask P w K mg base H' f Bad C := by
  refine ⟨_, b, ln.at_, ln.co, rfl, okL hc hB (fun pm ctv us h => ?_) (fun ws vs H Q E ⟨v, e, _⟩ => by rw [e]; rfl) fun X bd ck ws vs H Q E tk hw h => ?_⟩
  · match us, h with
    | [u], _ => exact bind pm ctv u
  · obtain ⟨v, rfl, bad, q⟩ := h
    match ws, hw with
    | [], _ => exact body X bd ck v H Q E tk bad q
end
end L2.Z
namespace L2.Z
open PySem PySem.Spec PyProof.Rows LamX NdefX
open Evl (Ex)
/-! ### a def whose promise looks at the state of its call -/
structure KnG (P : Program) (w : World) (K : PySem.W.Frag) (mg : Str → Option Value) (base : Heap) (k : Nat) (x : Str) (ps : List Str) (Gd : List Env → Shared → Hp → Prop) (sp : Sp) : Prop where
  ex : ∃ f, (∀ (A : Around) (outer : List Env) (s : Shared) (H : Hp) (us : List Value) (vs : List V) (Q : VK) (E : XK), Room k A → Env0 P w K mg base A outer s H → Vals vs us → Gd outer s H → sp vs H Q E → codeAny (model P w) A (.call (.ref f) ⟨us, []⟩) (CR (L2N.CX P w) outer P w H s Q E) s) ∧ mg x = some (.ref f) ∧ PySem.W.keepIn K (.ref f) = true
/-- what of the call's state the body sees -/
structure At0 (Gd : List Env → Shared → Hp → Prop) (X : Cx) (H : Hp) : Prop where
  g : Gd X.outer X.s_0 X.H_0
  h : X.H_0 = H
  ex : X.ex = []
/-- the same state -/
structure Sam (X X' : Cx) : Prop where
  s : X'.s_0 = X.s_0
  h : X'.H_0 = X.H_0
  o : X'.outer = X.outer
  ex : X'.ex = X.ex
section
variable {P : Program} {w : World} {K : PySem.W.Frag} {mg : Str → Option Value} {base : Heap}
theorem okdG {x : Str} {st : Stmt} {N ps R G B : List Str} {k : Nat} {Gd : List Env → Shared → Hp → Prop} {sp : Sp} (F : Df K mg x st ps) (d : DefOk (defScope st) N ps R G) (hB : ∀ y ∈ B, mg y = none) (len : ∀ vs H Q E, sp vs H Q E → vs.length = ps.length)
    (body : ∀ X : Cx, Bd P w K mg base k X → Ck X (defScope st) N R R G B → ∀ vs H Q E, Tk X (fun cls d _ H => E cls d H) → At0 Gd X H → sp vs H Q E →
      sB X (defBody st) { nx := fun _ H' => Q .non H', rt := Q } (start N vs) H) : KnG P w K mg base (k + 1) x ps Gd sp := by
  obtain ⟨f, fd, F, hm, hb⟩ := F.ex
  refine ⟨f, fun A outer s H us vs Q E hr e0 r g h => ?_, hm, F.kp⟩
  have hl := len _ _ _ _ h
  have KX : K.In s.heap := e0.mod.kin.keeps fun b o e => (e0.bs b o e).1
  have bb := hb s us KX (by rw [List.append_nil, ← r.length]; exact hl)
  rw [List.append_nil] at bb
  obtain ⟨oc, od, dV, kV, doc, pm, an, cdv, ct, osl, rfl, lk, hcd, _, _⟩ := F.ex
  obtain ⟨c, rfl⟩ := He.codeIn_ref hcd
  refine run_ofS (k := k) (N := N) lk hcd d.fs hr e0 bb r hl fun hr' => ⟨_, pB, ?_⟩
  have bd : Bd P w K mg base k (cxOf (L2N.CX P w) P w K mg base N x (defScope st) f (.ref c) A outer s H E) :=
    ⟨fun {y ps sp j} h hj => ⟨j, ps, h, hr'.mono hj⟩, fun {y v} h => ⟨h⟩, rfl, rfl, Ru.of hr', ⟨passes_of rfl⟩, hr', rfl, rfl, rfl, rfl, rfl⟩
  exact body _ bd (Ck.ofDef d rfl rfl rfl rfl hB) vs H Q E ⟨L2N.takes_of rfl rfl rfl rfl⟩ ⟨g, rfl, rfl⟩ h
end
section
variable {X X' : Cx} {sc : Scope} {N R S G B : List Str} {σ : St} {H : Hp} {Q : VK} {D : Ends} {rest body su : List Stmt} {x n : Str} {p p3 pos np : Pos} {i k : Nat} {e : Expr} {es : List Expr} {W : WX} {sp : Sp} {ps : List Str} {Gd : List Env → Shared → Hp → Prop}
theorem e_callG [C : Ck X sc N R S G B] [m : Mm G x] [t : Tk X W] (F : KnG X.prog X.w X.K X.mg X.base k x ps Gd sp) (hr : Room k X.A)
    (q : sA X (e :: es) σ H fun vs H1 => (∀ pins s, Inv X pins σ H1 s → Gd X.stack s H1) ∧ sp vs H1 Q (fun cls d H' => W cls d σ H'))
    (he : starEach (e :: es) X.env = (false, eval e X.env) :: starEach es X.env := by rfl) (hpl : (backTo pos (starEach es X.env)).any (·.1) = false := by rfl) : sE X (.Call (.Name x p) (e :: es) [] pos) σ H Q := by
  obtain ⟨f, run, hm, hk⟩ := F.ex
  obtain ⟨k1, k2, _⟩ := C.glo x m.mem
  refine ⟨fun pins s I => ?_⟩
  refine wpAny_Call_Name_kw (ld_glob I k1 hm ?_ k2)
  refine PySem.W.callWith_K (h₀ := X.base) I.ok.mod.kin hk (thn (q.run pos pins s I) fun us s1 ⟨vs, H1, I1, r, g, q1⟩ => ⟨I1.kIn, ?_⟩) he hpl
  refine wpAny_call (codeAny_mono (run X.A X.stack s1 H1 us vs Q _ hr I1.env0 r (g pins s1 I1) q1) fun r s' hq => ?_)
  cases r with
  | error e => exact L2N.passAt t.tk σ pins H1 s1 e s' I1 hq
  | ok fl =>
    cases fl with
    | ret u => exact I1.after hq
    | next => exact False.elim hq
    | brk => exact False.elim hq
    | cont => exact False.elim hq
/-- try, the state of the call kept in sight -/
theorem b_tryG [C : Ck X sc N R S G B] [t : Tk X W] {c : Value} {b0 : Stmt} (hs : X.stack = X.env :: X.outer) (hf : X.env.frame = some X.env.locals) (hi : N[i]? = some n) (hln : sc.names.lookup n = some .local) (nm : Names X x c)
    (q : ∀ X', Sub X X' → Sam X X' → Ck X' sc N R S G B → Tk X' (wAs X.K c i (tSu X sc N R S G B (b0 :: su)) W { D with nx := sB X rest D }) → Po X' → sB X' body { D with nx := sB X rest D } σ H) :
    sB X (.Try body [.ExceptHandler (some (.Name x np)) (some n) (b0 :: su) p3] [] [] pos :: rest) D σ H := by
  refine oB (pss_cons (L2N.ps_try_as (i := i) (c := c) (tb := fun W' D σ H => ∀ X', Sub X X' → Sam X X' → Ck X' sc N R S G B → Tk X' W' → Po X' → sB X' body D σ H) (ts := tSu X sc N R S G B (b0 :: su)) hs hf C.nd (by rw [C.nm]; exact hi) (show X.env.scope.names.lookup n = some .local by rw [C.sc]; exact hln) nm t.tk (fun W' pn xe tk po => ?_) (fun a oe cls d pn hz hv => ?_)) pB) q
  · refine ⟨fun pins s σ H D I h => (h (X.tr pn xe) ?_ ⟨rfl, rfl, rfl, rfl⟩ ?_ ⟨tk⟩ ⟨po⟩).run pins s I⟩
    · exact ⟨rfl, rfl, fun f sp F => ⟨F.ex⟩, rfl, rfl, rfl, rfl⟩
    · exact ⟨C.sc, C.nm, C.nd, C.calm, C.vis, C.sto, C.glo, C.blt⟩
  · refine ⟨fun pins s σ H D I h => (h (X.suite a ((a, oe) :: pn)) ⟨rfl, rfl, rfl⟩ ⟨C.sc, C.nm, C.nd, C.vis, C.sto, C.glo, C.blt⟩ (fun Dc e1 e2 ec => ⟨?_⟩) ⟨⟨(a, oe), ⟨rfl, ?_⟩, List.mem_cons_self⟩⟩).run pins s I⟩
    · subst e1 e2
      exact call_isE ec hz.zc hv
    · obtain ⟨vs, e⟩ := hv
      exact ⟨vs, e, hz.2.2 vs e⟩
/-- the captured cells, and that they are no frames -/
def CellG (cl : List (Str × Addr)) (fr : List Str) (ws : List (Option V)) : List Env → Shared → Hp → Prop := fun outer s H => CellsAt cl fr ws s.heap H ∧ ∀ y c, cl.lookup y = some c → c ∉ frs outer
theorem CellG.later {cl : List (Str × Addr)} {fr : List Str} {ws : List (Option V)} {H0 : Hp} (a : At0 (CellG cl fr ws) X H0) (z : Sam X X') : ∀ pins s, Inv X' pins σ H s → CellsAt cl fr ws s.heap H := fun pins s I => by
  obtain ⟨g1, g2⟩ := a.g
  refine CellsAt.later (X := X') ?_ ?_ ?_ I
  · rw [z.s, z.h]
    exact g1
  · intro y c e
    show c ∉ frs X'.outer
    rw [z.o]
    exact g2 y c e
  · intro y c e
    rw [z.ex, a.ex]
    simp
/-- the maker's own cells -/
theorem cellG_of {cl : List (Str × Addr)} {fr : List Str} {js : List Nat} (cp : X.Ok → Caps X cl fr js) (fn : ∀ x, X.fn x = true) : ∀ pins s, Inv X pins σ H s → CellG cl fr (js.map (slotAt σ)) X.stack s H := fun pins s I => by
  refine ⟨cells_of I (cp I.ok), fun y c e hb => ?_⟩
  have ec := (cp I.ok).sub y c e
  rcases List.mem_cons.mp (I.stkSub c hb) with z | z
  · exact I.cne y c ec z
  · obtain ⟨_, o, ho, _⟩ := I.ok.funs.mem z
    exact absurd (Nat.lt_of_lt_of_le (Heap.lt_size ho) (I.ok.cab y c (fn y) ec)) (Nat.lt_irrefl _)
end
/-- a def that makes lambdas over its own cells -/
theorem okDM2 {P : Program} {w : World} {K : PySem.W.Frag} {mg : Str → Option Value} {base : Heap} {T : List (Addr × Str)} {x : Str} {st : Stmt} {N ps R G B : List Str} {k : Nat} {sp : Sp} {fd : FuncData} (F : FunD K x x (defArgs st) (defBody st) (defScope st) [] [] (He.fAd K (x, none)) fd) (mk : ∃ Pt, TabB base mg (He.codeOf K (x, none)) Pt ∧ (Pt, x ++ ".<locals>." ++ "<lambda>") ∈ T ∧ ∀ p ∈ T, p.1 = Pt → p.2 = x ++ ".<locals>." ++ "<lambda>") (d : DefOk (defScope st) N ps R G) (hB : ∀ y ∈ B, mg y = none) (len : ∀ vs H Q E, sp vs H Q E → vs.length = ps.length)
    (body : ∀ X : Cx, Bd P w K mg base k X → Ck X (defScope st) N R R G B → Lm X T → (∀ y, X.fn y = true) → ∀ vs H Q E, Tk X (fun cls d _ H => E cls d H) → sp vs H Q E →
      sB X (defBody st) { nx := fun _ H' => Q .non H', rt := Q } (start N vs) H) : FnOk P w K mg base (L2N.CX P w) (k + 1) (He.fAd K (x, none)) fd ps sp := by
  obtain ⟨Pt, tb, mT, uT⟩ := mk
  obtain ⟨oc, od, dV, kV, doc, pm, an, cdv, ct, osl, rfl, lk, hcd, _, _⟩ := F.ex
  obtain ⟨c, rfl⟩ := He.codeIn_ref hcd
  refine fn_of lk hcd d.fs len fun A outer s H vs Q E hr hsp => ⟨_, pB, ?_⟩
  have bd : Bd P w K mg base k (cxOf (L2N.CX P w) P w K mg base N x (defScope st) (He.fAd K (x, none)) (.ref c) A outer s H E) :=
    ⟨fun {y ps sp j} h hj => ⟨j, ps, h, hr.mono hj⟩, fun {y v} h => ⟨h⟩, rfl, rfl, Ru.of hr, ⟨passes_of rfl⟩, hr, rfl, rfl, rfl, rfl, rfl⟩
  have lm : Lm (cxOf (L2N.CX P w) P w K mg base N x (defScope st) (He.fAd K (x, none)) (.ref c) A outer s H E) T := bd.lm tb (by rw [He.codeOf_eq lk rfl]; rfl) rfl mT uT
  exact body _ bd (Ck.ofDef d rfl rfl rfl rfl hB) lm (fun _ => rfl) vs H Q E ⟨L2N.takes_of rfl rfl rfl rfl⟩ hsp
section
variable {X : Cx} {sc scope : Scope} {N R S G B : List Str} {σ : St} {H : Hp} {Q : VK} {T : List (Addr × Str)} {params : Arguments} {body : Expr} {pos : Pos}
def seenB (sc scope : Scope) : Bool := scope.names.all fun y => !decide (y.2 = .free) || (decide (sc.names.lookup y.1 = some .cell) || decide (sc.names.lookup y.1 = some .free))
theorem seenB_ok {sc scope : Scope} (h : seenB sc scope = true) : ∀ y ∈ scope.names, y.2 = .free → sc.names.lookup y.1 = some .cell ∨ sc.names.lookup y.1 = some .free := fun y hy e => by
  have q := List.all_eq_true.mp h y hy
  rw [decide_eq_true e] at q
  rcases (Bool.or_eq_true _ _).mp q with z | z
  · cases z
  · rcases (Bool.or_eq_true _ _).mp z with z | z
    · exact .inl (of_decide_eq_true z)
    · exact .inr (of_decide_eq_true z)
/-- a lambda over cells of the maker -/
theorem e_lamC [C : Ck X sc N R S G B] [L : Lm X T] [t : Tb T H] (q : ∀ (f c' : Addr) (H1 : Hp), Tb T H1 → LamN H f ⟨"<lambda>", X.env.qual ++ "<lambda>", params, [], scope, cloFrom X.env.cells scope.names [], c'⟩ body H1 → Q (.ref f) H1)
    (sb : seenB sc scope = true := by decide +kernel) (dfl : defaultsOf params X.env = ([], []) := by rfl) : sE X (.Lambda params body scope pos) σ H Q := by
  obtain ⟨c, P, tb, ec, mT, uT⟩ := L.ex
  refine ⟨fun pins s I => lam_makeT I tb ec mT uT t.tb dfl (fun y hy e => ?_) fun f c' H1 s' I1 ext back t1 fr at_ co => ?_⟩
  · have z := seenB_ok sb y hy e
    rw [← C.sc] at z
    exact z.elim (fun z => I.ok.has _ (.inl z)) fun z => I.ok.has _ (.inr z)
  · exact ⟨.ref f, H1, I1, rfl, q f c' H1 ⟨t1⟩ ⟨ext, back, fr, at_, co⟩⟩
theorem caps_by [C : Ck X sc N R S G B] {fr : List Str} {js : List Nat} (sb : seenB sc scope = true) (hfr : fr.all (fun y => decide ((y, NameKind.free) ∈ scope.names)) = true) (hjs : js.map (fun j => N[j]?) = fr.map some) : X.Ok → Caps X (cloFrom X.env.cells scope.names []) fr js := fun ok =>
  Caps.made ok (fun y hy e => by rw [C.sc]; exact seenB_ok sb y hy e) (fun y hy => of_decide_eq_true (List.all_eq_true.mp hfr y hy)) (by rw [C.nm]; exact hjs)
end
end L2.Z
namespace L2.Z
open PySem PySem.Spec PyProof.Rows
open Evl (Ex)
section
variable {X : Cx} {sc : Scope} {N R S G B : List Str} {σ : St} {H : Hp} {Q : VK} {a b : Expr} {p p2 pos : Pos}
/-- list(range(i, n)) -/
theorem e_listR2 {pc : Pos} [C : Ck X sc N R S G B] [m : Mm G "list"] [mb : Mm B "list"] [m' : Mm G "range"] [mb' : Mm B "range"] (q : sE X a σ H fun v H1 => sE X b σ H1 fun v2 H2 => ∃ i n : Int, v = .int i ∧ v2 = .int n ∧ (0 ≤ i ∧ i ≤ n ∧ n ≤ 100000) ∧ ∀ p H', New H2 p (.lst (((List.range (n - i).toNat).map fun k => i + ((k : Nat) : Int)).map V.int)) H' → Q (.ref p) H')
    (na : starEach [a, b] X.env = (false, eval a X.env) :: starEach [b] X.env := by rfl) (nb : starEach [b] X.env = (false, eval b X.env) :: starEach [] X.env := by rfl) (hp : (backTo pc (starEach [b] X.env)).any (·.1) = false := by rfl) (nc : starEach [Expr.Call (.Name "range" p2) [a, b] [] pc] X.env = (false, eval (Expr.Call (.Name "range" p2) [a, b] [] pc) X.env) :: starEach [] X.env := by rfl) :
    sE X (.Call (.Name "list" p) [.Call (.Name "range" p2) [a, b] [] pc] [] pos) σ H Q := by
  refine oE (pe_listRg C.calm (C.glo _ m.mem).1 (C.blt _ mb.mem) (prg_2 (C.glo _ m'.mem).1 (C.blt _ mb'.mem) pE pE na nb hp) nc) ?_
  refine sE_mono (fun v H1 h => sE_mono (fun v2 H2 ⟨i, n, e1, e2, hh, k⟩ => ⟨i, n, e1, e2, RgOk.of_le (by omega) (by omega) (by omega) (by omega), fun q hq => ?_⟩) h) q
  have e3 : rgV i n = ((List.range (n - i).toNat).map fun k => i + ((k : Nat) : Int)).map V.int := by
    unfold rgV
    rw [List.map_map]
    rfl
  rw [e3]
  exact k q _ (New.mk' hq)
end
/-! ### pairs compared as a whole -/
section
open PySem.W (Datum)
variable {α β : Type} [DecidableEq α] [Datum α] [DecidableEq β] [Datum β] {K : PySem.W.Frag} {H : Hp} {T : Addr} {u v : V} {d : α} {e : β}
instance Dt.pair [h : At H T (.tup [u, v])] [h1 : Dt K H u α d] [h2 : Dt K H v β e] : Dt K H (.ref T) (α × β) (d, e) := ⟨.tup (SqT.of h.h) (.cons h1.h (.cons h2.h .nil))⟩
end
/-! ### f(lambda .., e2, e3): the lambda over cells of the maker -/
section
open LamX NdefX
variable {X : Cx} {sc scope : Scope} {N R S G B : List Str} {σ : St} {H : Hp} {Q : VK} {W : WX} {T : List (Addr × Str)} {params : Arguments} {body e2 e3 : Expr} {x : Str} {p pos pos' : Pos} {k : Nat} {ps : List Str} {sp : List (Str × Addr) → Sp}
theorem e_refC [C : Ck X sc N R S G B] [mx : Mm G x] [t : Tk X W] [L : Lm X T] [tb : Tb T H] (fr : List Str) (js : List Nat) {ws : List (Option V)} (kG : ∀ cl, KnG X.prog X.w X.K X.mg X.base k x ps (CellG cl fr ws) (sp cl)) (hr : Room k X.A) (fn : ∀ y, X.fn y = true) (hws : js.map (slotAt σ) = ws)
    (q : ∀ (f c' : Addr) (H1 : Hp), Tb T H1 → LamN H f ⟨"<lambda>", X.env.qual ++ "<lambda>", params, [], scope, cloFrom X.env.cells scope.names [], c'⟩ body H1 → sA X [e2, e3] σ H1 fun vs H2 => sp (cloFrom X.env.cells scope.names []) (.ref f :: vs) H2 Q (fun cls d H' => W cls d σ H'))
    (sb : seenB sc scope = true := by decide +kernel) (hfr : fr.all (fun y => decide ((y, NameKind.free) ∈ scope.names)) = true := by decide +kernel) (hjs : js.map (fun j => N[j]?) = fr.map some := by rfl) (dfl : defaultsOf params X.env = ([], []) := by rfl)
    (he : starEach [.Lambda params body scope pos', e2, e3] X.env = (false, eval (.Lambda params body scope pos') X.env) :: starEach [e2, e3] X.env := by rfl) (hpl : (backTo pos (starEach [e2, e3] X.env)).any (·.1) = false := by rfl) :
    sE X (.Call (.Name x p) [.Lambda params body scope pos', e2, e3] [] pos) σ H Q := by
  refine e_callG (kG (cloFrom X.env.cells scope.names [])) hr (a_cons (e_lamC (fun f c' H1 t1 l1 => ?_) sb dfl) he) he hpl
  refine sA_mono (fun vs H2 h => ⟨fun pins s I => ?_, h⟩) (q f c' H1 t1 l1)
  have z := cellG_of (σ := σ) (H := H2) (caps_by (X := X) (scope := scope) (fr := fr) (js := js) sb hfr hjs) fn pins s I
  rw [hws] at z
  exact z
end
end L2.Z
namespace L2.Z
open PySem PySem.Spec PyProof.Rows LamX NdefX
open Evl (Ex)
/-! ### a comprehension whose turns make lambdas -/
theorem codeO_lst {c : Addr} {q : Str} {xs : List V} : CodeO c q ≠ .lst xs := fun z => by unfold CodeO at z; cases z
theorem Tb.updL {T : List (Addr × Str)} {H : Hp} {D : Addr} {xs ys : List V} (t : Tb T H) (h : H D = some (.lst xs)) : Tb T (upd H D (.lst ys)) := ⟨fun p hp => by
  obtain ⟨ps, a1, a2, a3⟩ := t.tb p hp
  have n1 : p.1 ≠ D := fun z => by rw [z, h] at a1; cases a1
  refine ⟨ps, (upd_ne n1).trans a1, a2, fun pos cv hc => ?_⟩
  obtain ⟨c, e, hcc⟩ := a3 pos cv hc
  refine ⟨c, e, (upd_ne fun z => ?_).trans hcc⟩
  rw [z, h] at hcc
  exact codeO_lst (Option.some.inj hcc).symm⟩
section
variable {X : Cx} {sc scope : Scope} {N R S G B : List Str} {σ : St} {H : Hp} {Q : VK} {T : List (Addr × Str)} {elt iter : Expr} {x0 : Str} {px pos : Pos}
theorem e_lcT [C : Ck X sc N R S G B] [L : Lm X T] (i0 : Nat) (R' G' : List Str) (hb : blkAll N sc scope [(x0, i0)] R' G' = true)
    (q : sE X iter σ H fun v H1 => ∃ A xs, v = .ref A ∧ H1 A = some (.lst xs) ∧ xs.length ≤ 1000 ∧ Tb T H1 ∧
      (∀ x ∈ xs, ∀ X' Hc, Sub X X' → Ck X' (relS scope sc) N R' [x0] G' B → Lm X' T → Tb T Hc → ExN H1 Hc → ∃ σ2, Put N σ x0 x σ2 ∧ sE X' elt σ2 Hc fun y H4 => y = .bl true ∧ Tb T H4 ∧ ExN Hc H4) ∧
      ∀ D H', At H' D (.lst (xs.map fun _ => .bl true)) → Tb T H' → ExN H1 H' → Q (.ref D) H')
    (hs : ∀ x, foldedSetIterable iter X.env x = pure x := by intro _; rfl) : sE X (.ListComp elt [⟨.Name x0 px, iter, [], 0⟩] scope pos) σ H Q := by
  have nd := C.nd
  rw [C.nm] at nd
  have hg : ∀ X', Ck X' (relS scope sc) N R' ([(x0, i0)].map (·.1)) G' B → X'.K = X.K → PG X' (.Name x0 px) (gName i0) := hg1 hb
  refine oE (pe_lc (own := [(x0, i0)]) (wi := sI X (.Name x0 px) iter) (g := gName i0) (tt := fun σ H Q => allB X scope fun X' => sTs X' [] σ H Q) (te := fun σ H Q => allB X scope fun X' => sE X' elt σ H Q) C.calm C.nd pI (blkOk_of hb) (fun s H Ca cl fp => hg _ (Ck.ofBlk (own := [(x0, i0)]) hb s H Ca cl fp) rfl) (fun s H Ca cl fp => ⟨fun pins s' _ _ _ I h => (h s H Ca cl fp).run pins s' I⟩)
    (fun s H Ca cl fp => ⟨fun pins s' _ _ _ I h => (h s H Ca cl fp).run pins s' I⟩) hs) ?_
  refine i_list (sE_mono (fun v H2 h2 => ?_) q)
  obtain ⟨A, xs, rfl, hA, hl, tb, turn, done⟩ := h2
  refine ⟨A, xs, rfl, SqL.of hA, fun D hD => ?_⟩
  have sA' : strip H2 A = some (.lst xs) := strip_of hA fun _ z => by cases z
  have s := src_list (K := X.K) (σ := σ) (i0 := i0) (H1 := strip H2) xs id (List.map_id xs).symm (SqL.of sA') (by omega)
  have exs : ∀ {Hc : Hp}, ExtN H2 Hc → Ex (strip H2) Hc := fun e b o h => e b o (strip_ex b o h) (strip_nt h)
  refine lc_it (g := gName i0) (tt := fun σ H Q => allB X scope fun X' => sTs X' [] σ H Q) (te := fun σ H Q => allB X scope fun X' => sE X' elt σ H Q) (vs := [i0]) (σ := σ) (H1 := H2) (D := D) (Qd := fun H => Q (.ref D) H) s.wk (fun i Hc => Hc D = some (.lst ((xs.take i).map fun _ => V.bl true)) ∧ Tb T Hc ∧ ExtN H2 Hc) ?_ ?_ ?_ ?_
  · have e : Ex H2 (upd H2 D (.lst [])) := Ex.new hD
    exact ⟨by rw [List.take_zero]; exact upd_same, ⟨Tabs.ext tb.tb e⟩, ExtN.of e⟩
  · rintro i Hc hi ⟨_, _, e⟩
    exact s.gd Hc (exs e)
  · rintro i x Hc H' hi ⟨hc, tc, ec⟩ y
    obtain ⟨a, ha, hm⟩ := get_lt hi
    refine s.hy i a Hc x H' ha (exs ec) y _ fun H3 e3 => ⟨s.hw a, fun s' H0 Ca cl fp => ts_nil ?_⟩
    rw [if_pos rfl]
    refine fun s5 H05 Ca5 cl5 fp5 => ?_
    have t3 : Tb T H3 := ⟨Tabs.ext tc.tb e3⟩
    have x3 : ExtN H2 H3 := ec.trans (ExtN.of e3)
    obtain ⟨σ2, pu, k⟩ := turn a hm (X.blk s5 H05 scope (compEnvC scope cl5 Ca5 X.env) fp5) H3 Sub.blk (Ck.ofBlk (own := [(x0, i0)]) hb s5 H05 Ca5 cl5 fp5) ⟨L.ex⟩ t3 ⟨x3⟩
    rw [pu.eq nd (ix_own hb)] at k
    refine sE_mono (fun y4 H4 h4 => ?_) k
    obtain ⟨rfl, t4, x4⟩ := h4
    have d4 : H4 D = some (.lst ((xs.take i).map fun _ => V.bl true)) := x4.ex _ _ (e3 _ _ hc) fun _ z => by cases z
    refine ⟨_, d4, Evl.sz_lt (by rw [List.length_map, List.length_take]; omega), ?_, Tb.updL t4 d4, ?_⟩
    · rw [upd_same, List.take_add_one, ha, List.map_append]
      rfl
    · intro b o h n
      have hbD : b ≠ D := fun z => by rw [z, hD] at h; cases h
      rw [upd_ne hbD]
      exact (x3.trans x4.ex) b o h n
  · rintro Hc ⟨hc, tc, ec⟩
    rw [List.take_of_length_le (Nat.le_refl _)] at hc
    exact done D Hc ⟨hc⟩ tc ⟨ec⟩
end
end L2.Z
namespace L2.Z
open PySem PySem.Spec PyProof.Rows
open Evl (Ex)
def top (i : Nat) : Stmt := PySem.Challenge.pw_thoughtcards_k09_whole_known.main.body.getD i (.Pass ⟨0, 0, 0, 0⟩)
abbrev s_is_whole : Stmt := top 13
abbrev n_is_whole : List Str := ["thing"]
abbrev p_is_whole : List Str := ["thing"]
abbrev r_is_whole : List Str := ["thing"]
abbrev g_is_whole : List Str := ["isinstance", "int", "bool"]
theorem d_is_whole : DefOk (defScope s_is_whole) n_is_whole p_is_whole r_is_whole g_is_whole := defOk (by decide +kernel)
abbrev s_asked_many : Stmt := top 14
abbrev n_asked_many : List Str := ["many"]
abbrev p_asked_many : List Str := ["many"]
abbrev r_asked_many : List Str := ["many"]
abbrev g_asked_many : List Str := ["is_whole", "MOST", "BadMany"]
theorem d_asked_many : DefOk (defScope s_asked_many) n_asked_many p_asked_many r_asked_many g_asked_many := defOk (by decide +kernel)
abbrev s_is_card : Stmt := top 15
abbrev n_is_card : List Str := ["thing", "many", "one", "at"]
abbrev p_is_card : List Str := ["thing", "many"]
abbrev r_is_card : List Str := ["thing", "many"]
abbrev g_is_card : List Str := ["isinstance", "list", "all", "range", "len"]
theorem d_is_card : DefOk (defScope s_is_card) n_is_card p_is_card r_is_card g_is_card := defOk (by decide +kernel)
abbrev o_is_card_0 : List (Str × Nat) := [("one", 2)]
abbrev r_is_card_0 : List Str := ["one", "many"]
abbrev g_is_card_0 : List Str := ["is_whole"]
abbrev o_is_card_1 : List (Str × Nat) := [("at", 3)]
abbrev r_is_card_1 : List Str := ["at", "thing"]
abbrev g_is_card_1 : List Str := []
abbrev s_asked_cards : Stmt := top 16
abbrev n_asked_cards : List Str := ["many", "cards", "card"]
abbrev p_asked_cards : List Str := ["many", "cards"]
abbrev r_asked_cards : List Str := ["many", "cards"]
abbrev g_asked_cards : List Str := ["asked_many", "isinstance", "list", "len", "MOST_CARDS", "all", "BadCards"]
theorem d_asked_cards : DefOk (defScope s_asked_cards) n_asked_cards p_asked_cards r_asked_cards g_asked_cards := defOk (by decide +kernel)
abbrev o_asked_cards_0 : List (Str × Nat) := [("card", 2)]
abbrev r_asked_cards_0 : List Str := ["card", "many"]
abbrev g_asked_cards_0 : List Str := ["is_card"]
abbrev s_asked_number : Stmt := top 17
abbrev n_asked_number : List Str := ["many", "number"]
abbrev p_asked_number : List Str := ["many", "number"]
abbrev r_asked_number : List Str := ["many", "number"]
abbrev g_asked_number : List Str := ["is_whole", "BadNumber"]
theorem d_asked_number : DefOk (defScope s_asked_number) n_asked_number p_asked_number r_asked_number g_asked_number := defOk (by decide +kernel)
abbrev s_asked_lies : Stmt := top 18
abbrev n_asked_lies : List Str := ["lies"]
abbrev p_asked_lies : List Str := ["lies"]
abbrev r_asked_lies : List Str := ["lies"]
abbrev g_asked_lies : List Str := ["is_whole", "BadLies"]
theorem d_asked_lies : DefOk (defScope s_asked_lies) n_asked_lies p_asked_lies r_asked_lies g_asked_lies := defOk (by decide +kernel)
abbrev s_marks_of : Stmt := top 19
abbrev n_marks_of : List Str := ["cards", "number", "card"]
abbrev p_marks_of : List Str := ["cards", "number"]
abbrev r_marks_of : List Str := ["cards", "number"]
abbrev g_marks_of : List Str := []
theorem d_marks_of : DefOk (defScope s_marks_of) n_marks_of p_marks_of r_marks_of g_marks_of := defOk (by decide +kernel)
abbrev o_marks_of_0 : List (Str × Nat) := [("card", 2)]
abbrev r_marks_of_0 : List Str := ["card", "number"]
abbrev g_marks_of_0 : List Str := []
abbrev s_marks : Stmt := top 20
abbrev n_marks : List Str := ["many", "cards", "number"]
abbrev p_marks : List Str := ["many", "cards", "number"]
abbrev r_marks : List Str := ["many", "cards", "number"]
abbrev g_marks : List Str := ["asked_cards", "asked_number", "marks_of"]
theorem d_marks : DefOk (defScope s_marks) n_marks p_marks r_marks g_marks := defOk (by decide +kernel)
abbrev s_unlike : Stmt := top 21
abbrev n_unlike : List Str := ["one", "other", "mine", "theirs"]
abbrev p_unlike : List Str := ["one", "other"]
abbrev r_unlike : List Str := ["one", "other"]
abbrev g_unlike : List Str := ["len", "zip"]
theorem d_unlike : DefOk (defScope s_unlike) n_unlike p_unlike r_unlike g_unlike := defOk (by decide +kernel)
abbrev o_unlike_0 : List (Str × Nat) := [("mine", 2), ("theirs", 3)]
abbrev r_unlike_0 : List Str := ["mine", "theirs"]
abbrev g_unlike_0 : List Str := []
abbrev s_together : Stmt := top 22
abbrev n_together : List Str := ["many", "cards", "more", "card"]
abbrev p_together : List Str := ["many", "cards", "more"]
abbrev r_together : List Str := ["many", "cards", "more"]
abbrev g_together : List Str := ["asked_cards", "len", "MOST_CARDS", "TooMany"]
theorem d_together : DefOk (defScope s_together) n_together p_together r_together g_together := defOk (by decide +kernel)
abbrev o_together_0 : List (Str × Nat) := [("card", 3)]
abbrev r_together_0 : List Str := ["card"]
abbrev g_together_0 : List Str := ["list"]
abbrev s_ordered : Stmt := top 23
abbrev n_ordered : List Str := ["many", "cards", "order", "one", "place"]
abbrev p_ordered : List Str := ["many", "cards", "order"]
abbrev r_ordered : List Str := ["many", "cards", "order"]
abbrev g_ordered : List Str := ["asked_cards", "isinstance", "list", "all", "BadOrder", "sorted", "range", "len"]
theorem d_ordered : DefOk (defScope s_ordered) n_ordered p_ordered r_ordered g_ordered := defOk (by decide +kernel)
abbrev o_ordered_0 : List (Str × Nat) := [("one", 3)]
abbrev r_ordered_0 : List Str := ["one"]
abbrev g_ordered_0 : List Str := ["is_whole"]
abbrev o_ordered_1 : List (Str × Nat) := [("place", 4)]
abbrev r_ordered_1 : List Str := ["place", "cards"]
abbrev g_ordered_1 : List Str := ["list"]
abbrev s_Tells_shows : Stmt := inClass (top 26) 0
abbrev n_Tells_shows : List Str := ["self", "many", "cards", "lies", "one", "other"]
abbrev p_Tells_shows : List Str := ["self", "many", "cards", "lies"]
abbrev r_Tells_shows : List Str := ["self", "many", "cards", "lies", "one", "other"]
abbrev g_Tells_shows : List Str := ["range", "unlike", "marks_of"]
theorem d_Tells_shows : DefOk (defScope s_Tells_shows) n_Tells_shows p_Tells_shows r_Tells_shows g_Tells_shows := defOk (by decide +kernel)
abbrev s_Alike_init : Stmt := inClass (top 27) 0
abbrev n_Alike_init : List Str := ["self", "one", "other"]
abbrev p_Alike_init : List Str := ["self", "one", "other"]
abbrev r_Alike_init : List Str := ["self", "one", "other"]
abbrev g_Alike_init : List Str := []
theorem d_Alike_init : DefOk (defScope s_Alike_init) n_Alike_init p_Alike_init r_Alike_init g_Alike_init := defOk (by decide +kernel)
abbrev s_Alike_shows : Stmt := inClass (top 27) 1
abbrev n_Alike_shows : List Str := ["self", "many", "cards", "lies"]
abbrev p_Alike_shows : List Str := ["self", "many", "cards", "lies"]
abbrev r_Alike_shows : List Str := ["self", "many", "cards", "lies"]
abbrev g_Alike_shows : List Str := ["unlike", "marks_of"]
theorem d_Alike_shows : DefOk (defScope s_Alike_shows) n_Alike_shows p_Alike_shows r_Alike_shows g_Alike_shows := defOk (by decide +kernel)
abbrev s_near : Stmt := top 28
abbrev n_near : List Str := ["many", "cards", "said", "lies", "number"]
abbrev p_near : List Str := ["many", "cards", "said", "lies"]
abbrev r_near : List Str := ["many", "cards", "said", "lies"]
abbrev g_near : List Str := ["range"]
theorem d_near : DefOk (defScope s_near) n_near p_near r_near g_near := defOk (by decide +kernel)
abbrev o_near_0 : List (Str × Nat) := [("number", 4)]
abbrev r_near_0 : List Str := ["number", "cards", "said", "lies"]
abbrev g_near_0 : List Str := ["unlike", "marks_of"]
abbrev s_Thought_init : Stmt := inClass (top 29) 0
abbrev n_Thought_init : List Str := ["self", "number", "cards"]
abbrev p_Thought_init : List Str := ["self", "number", "cards"]
abbrev r_Thought_init : List Str := ["self", "number", "cards"]
abbrev g_Thought_init : List Str := ["list"]
theorem d_Thought_init : DefOk (defScope s_Thought_init) n_Thought_init p_Thought_init r_Thought_init g_Thought_init := defOk (by decide +kernel)
abbrev s_Thought_shows : Stmt := inClass (top 29) 1
abbrev n_Thought_shows : List Str := ["self", "many", "cards", "said", "lies", "due", "at"]
abbrev p_Thought_shows : List Str := ["self", "many", "cards", "said", "lies"]
abbrev r_Thought_shows : List Str := ["self", "many", "cards", "said", "lies", "due"]
abbrev g_Thought_shows : List Str := ["near", "marks_of", "range", "len"]
theorem d_Thought_shows : DefOk (defScope s_Thought_shows) n_Thought_shows p_Thought_shows r_Thought_shows g_Thought_shows := defOk (by decide +kernel)
abbrev o_Thought_shows_0 : List (Str × Nat) := [("at", 6)]
abbrev r_Thought_shows_0 : List Str := ["at", "due", "said"]
abbrev g_Thought_shows_0 : List Str := []
abbrev s_Open_init : Stmt := inClass (top 30) 0
abbrev n_Open_init : List Str := ["self", "one", "other"]
abbrev p_Open_init : List Str := ["self", "one", "other"]
abbrev r_Open_init : List Str := ["self", "one", "other"]
abbrev g_Open_init : List Str := []
theorem d_Open_init : DefOk (defScope s_Open_init) n_Open_init p_Open_init r_Open_init g_Open_init := defOk (by decide +kernel)
abbrev s_Open_shows : Stmt := inClass (top 30) 1
abbrev n_Open_shows : List Str := ["self", "many", "cards", "said", "lies", "some"]
abbrev p_Open_shows : List Str := ["self", "many", "cards", "said", "lies"]
abbrev r_Open_shows : List Str := ["self", "many", "cards", "said", "lies", "some"]
abbrev g_Open_shows : List Str := ["near"]
theorem d_Open_shows : DefOk (defScope s_Open_shows) n_Open_shows p_Open_shows r_Open_shows g_Open_shows := defOk (by decide +kernel)
abbrev s_Nobody_shows : Stmt := inClass (top 31) 0
abbrev n_Nobody_shows : List Str := ["self", "many", "cards", "said", "lies"]
abbrev p_Nobody_shows : List Str := ["self", "many", "cards", "said", "lies"]
abbrev r_Nobody_shows : List Str := ["self", "many", "cards", "said", "lies"]
abbrev g_Nobody_shows : List Str := ["near"]
theorem d_Nobody_shows : DefOk (defScope s_Nobody_shows) n_Nobody_shows p_Nobody_shows r_Nobody_shows g_Nobody_shows := defOk (by decide +kernel)
abbrev s_judged : Stmt := top 34
abbrev n_judged : List Str := ["many", "cards", "lies", "one", "other"]
abbrev p_judged : List Str := ["many", "cards", "lies"]
abbrev r_judged : List Str := ["many", "cards", "lies", "one", "other"]
abbrev g_judged : List Str := ["asked_cards", "asked_lies", "range", "unlike", "marks_of", "Alike", "Tells"]
theorem d_judged : DefOk (defScope s_judged) n_judged p_judged r_judged g_judged := defOk (by decide +kernel)
abbrev s_told : Stmt := top 35
abbrev n_told : List Str := ["many", "cards", "said", "lies", "some", "due", "one", "at"]
abbrev p_told : List Str := ["many", "cards", "said", "lies"]
abbrev r_told : List Str := ["many", "cards", "said", "lies", "some", "due"]
abbrev g_told : List Str := ["asked_cards", "isinstance", "list", "len", "all", "BadSaid", "asked_lies", "near", "Nobody", "Open", "marks_of", "Thought", "range"]
theorem d_told : DefOk (defScope s_told) n_told p_told r_told g_told := defOk (by decide +kernel)
abbrev o_told_0 : List (Str × Nat) := [("one", 6)]
abbrev r_told_0 : List Str := ["one"]
abbrev g_told_0 : List Str := ["isinstance", "bool"]
abbrev o_told_1 : List (Str × Nat) := [("at", 7)]
abbrev r_told_1 : List Str := ["at", "due", "said"]
abbrev g_told_1 : List Str := []
abbrev s_made : Stmt := top 36
abbrev n_made : List Str := ["many", "base", "found", "step", "figure", "number"]
abbrev p_made : List Str := ["many", "base"]
abbrev r_made : List Str := ["many", "base", "found", "step", "figure"]
abbrev g_made : List Str := ["asked_many", "is_whole", "MOST", "BadBase", "range"]
theorem d_made : DefOk (defScope s_made) n_made p_made r_made g_made := defOk (by decide +kernel)
abbrev o_made_0 : List (Str × Nat) := [("number", 5)]
abbrev r_made_0 : List Str := ["number", "step", "base", "figure"]
abbrev g_made_0 : List Str := []
abbrev s_fewest_of : Stmt := top 37
abbrev n_fewest_of : List Str := ["many", "lies", "found"]
abbrev p_fewest_of : List Str := ["many", "lies"]
abbrev r_fewest_of : List Str := ["many", "lies", "found"]
abbrev g_fewest_of : List Str := []
theorem d_fewest_of : DefOk (defScope s_fewest_of) n_fewest_of p_fewest_of r_fewest_of g_fewest_of := defOk (by decide +kernel)
abbrev s_fewest : Stmt := top 38
abbrev n_fewest : List Str := ["many", "lies"]
abbrev p_fewest : List Str := ["many", "lies"]
abbrev r_fewest : List Str := ["many", "lies"]
abbrev g_fewest : List Str := ["is_whole", "BadMany", "BadLies", "MOST", "fewest_of"]
theorem d_fewest : DefOk (defScope s_fewest) n_fewest p_fewest r_fewest g_fewest := defOk (by decide +kernel)
abbrev s_best : Stmt := top 39
abbrev n_best : List Str := ["many", "lies", "size", "words", "number", "word", "at", "bit"]
abbrev p_best : List Str := ["many", "lies"]
abbrev r_best : List Str := ["many", "lies", "size", "words", "number", "word"]
abbrev g_best : List Str := ["asked_many", "is_whole", "BadLies", "made", "fewest_of", "range", "any", "sorted"]
theorem d_best : DefOk (defScope s_best) n_best p_best r_best g_best := defOk (by decide +kernel)
abbrev o_best_0 : List (Str × Nat) := [("at", 6)]
abbrev r_best_0 : List Str := ["at", "number"]
abbrev g_best_0 : List Str := ["sum", "range"]
abbrev o_best_0_0 : List (Str × Nat) := [("bit", 7)]
abbrev r_best_0_0 : List Str := ["bit", "at", "number"]
abbrev g_best_0_0 : List Str := ["CODE"]
abbrev o_best_1 : List (Str × Nat) := [("at", 6)]
abbrev r_best_1 : List Str := ["at", "many", "words"]
abbrev g_best_1 : List Str := ["range"]
abbrev o_best_1_0 : List (Str × Nat) := [("number", 4)]
abbrev r_best_1_0 : List Str := ["number", "words", "at"]
abbrev g_best_1_0 : List Str := []
abbrev s_law_refused : Stmt := top 41
abbrev n_law_refused : List Str := ["_law_ask", "_law_thing", "_law_due", "error", "_law_kinds", "_law_kind"]
abbrev p_law_refused : List Str := ["_law_ask", "_law_thing", "_law_due"]
abbrev r_law_refused : List Str := ["_law_ask", "_law_thing", "_law_due", "error", "_law_kinds"]
abbrev g_law_refused : List Str := ["CardError", "isinstance", "BadMany", "BadCards", "BadNumber", "BadSaid", "BadLies", "BadBase", "BadOrder", "TooMany", "ValueError", "range"]
theorem d_law_refused : DefOk (defScope s_law_refused) n_law_refused p_law_refused r_law_refused g_law_refused := defOk (by decide +kernel)
abbrev o_law_refused_0 : List (Str × Nat) := [("_law_kind", 5)]
abbrev r_law_refused_0 : List Str := ["_law_kind", "_law_due"]
abbrev g_law_refused_0 : List Str := []
abbrev s_law_says : Stmt := top 42
abbrev n_law_says : List Str := ["_law_said", "_law_due"]
abbrev p_law_says : List Str := ["_law_said", "_law_due"]
abbrev r_law_says : List Str := ["_law_said", "_law_due"]
abbrev g_law_says : List Str := ["isinstance", "bool"]
theorem d_law_says : DefOk (defScope s_law_says) n_law_says p_law_says r_law_says g_law_says := defOk (by decide +kernel)
abbrev s_law_apart_right : Stmt := top 43
abbrev n_law_apart_right : List Str := ["_law_many", "_law_card", "_law_cards", "_law_twice", "_law_found", "_law_six", "_law_built", "_law_said"]
abbrev p_law_apart_right : List Str := ["_law_many"]
abbrev r_law_apart_right : List Str := ["_law_many", "_law_card", "_law_cards", "_law_twice", "_law_found", "_law_six", "_law_built", "_law_said"]
abbrev g_law_apart_right : List Str := ["together", "ordered", "_law_refused", "Thought", "_law_says", "told", "marks"]
theorem d_law_apart_right : DefOk (defScope s_law_apart_right) n_law_apart_right p_law_apart_right r_law_apart_right g_law_apart_right := defOk (by decide +kernel)
abbrev s_law_lies_right : Stmt := top 44
abbrev n_law_lies_right : List Str := ["_law_far", "_law_great", "_law_many", "_law_cards", "_law_said", "_law_apart", "_law_answer", "_law_first", "_law_one", "_law_two", "_law_alike", "_law_at", "_law_mark"]
abbrev p_law_lies_right : List Str := ["_law_far"]
abbrev r_law_lies_right : List Str := ["_law_far", "_law_great", "_law_many", "_law_cards", "_law_said", "_law_apart", "_law_answer", "_law_first", "_law_one", "_law_two", "_law_alike"]
abbrev g_law_lies_right : List Str := ["list", "range", "enumerate", "marks", "told", "judged", "isinstance", "Thought", "Tells", "Open", "Alike", "Nobody"]
theorem d_law_lies_right : DefOk (defScope s_law_lies_right) n_law_lies_right p_law_lies_right r_law_lies_right g_law_lies_right := defOk (by decide +kernel)
abbrev o_law_lies_right_0 : List (Str × Nat) := [("_law_at", 11), ("_law_mark", 12)]
abbrev r_law_lies_right_0 : List Str := ["_law_at", "_law_mark", "_law_said"]
abbrev g_law_lies_right_0 : List Str := []
abbrev s_law_made_right : Stmt := top 45
abbrev n_law_made_right : List Str := ["_law_places", "_law_rows", "_law_great", "_law_turn", "_law_one", "_law_many"]
abbrev p_law_made_right : List Str := ["_law_places"]
abbrev r_law_made_right : List Str := ["_law_places", "_law_rows", "_law_great", "_law_turn"]
abbrev g_law_made_right : List Str := ["list", "range", "made", "fewest"]
theorem d_law_made_right : DefOk (defScope s_law_made_right) n_law_made_right p_law_made_right r_law_made_right g_law_made_right := defOk (by decide +kernel)
abbrev o_law_made_right_0 : List (Str × Nat) := [("_law_one", 4)]
abbrev r_law_made_right_0 : List Str := ["_law_one"]
abbrev g_law_made_right_0 : List Str := []
abbrev o_law_made_right_1 : List (Str × Nat) := [("_law_many", 5)]
abbrev r_law_made_right_1 : List Str := ["_law_many"]
abbrev g_law_made_right_1 : List Str := ["fewest"]
abbrev s_law_hand_right : Stmt := top 46
abbrev n_law_hand_right : List Str := ["_law_cards", "_law_said", "_law_rows", "_law_answer", "_law_due", "_law_three", "_law_told_now"]
abbrev p_law_hand_right : List Str := []
abbrev r_law_hand_right : List Str := ["_law_cards", "_law_said", "_law_rows", "_law_answer", "_law_due", "_law_three", "_law_told_now"]
abbrev g_law_hand_right : List Str := ["best", "marks", "Thought", "Nobody", "Open", "_law_says", "Alike", "told"]
theorem d_law_hand_right : DefOk (defScope s_law_hand_right) n_law_hand_right p_law_hand_right r_law_hand_right g_law_hand_right := defOk (by decide +kernel)
abbrev s_law_bad_right : Stmt := top 47
abbrev n_law_bad_right : List Str := ["_law_whole", "_law_cards", "_law_said", "_law_spot", "_law_bad", "_law_row", "_law_order", "_law_many", "_law_lies", "_law_due", "_law_at"]
abbrev p_law_bad_right : List Str := ["_law_whole"]
abbrev r_law_bad_right : List Str := ["_law_whole", "_law_cards", "_law_said", "_law_spot", "_law_bad", "_law_row", "_law_order", "_law_many", "_law_lies", "_law_due"]
abbrev g_law_bad_right : List Str := ["range", "_law_refused", "all"]
theorem d_law_bad_right : DefOk (defScope s_law_bad_right) n_law_bad_right p_law_bad_right r_law_bad_right g_law_bad_right := defOk (by decide +kernel)
abbrev o_law_bad_right_0 : List (Str × Nat) := [("_law_at", 10)]
abbrev r_law_bad_right_0 : List Str := ["_law_at"]
abbrev g_law_bad_right_0 : List Str := []
abbrev o_law_bad_right_1 : List (Str × Nat) := [("_law_bad", 4)]
abbrev r_law_bad_right_1 : List Str := ["_law_bad"]
abbrev g_law_bad_right_1 : List Str := ["_law_refused"]
abbrev s_law : Stmt := top 48
abbrev n_law : List Str := ["_law_script", "_law_whole"]
abbrev p_law : List Str := ["_law_script"]
abbrev r_law : List Str := ["_law_script", "_law_whole"]
abbrev g_law : List Str := ["abs", "sum", "_law_apart_right", "_law_lies_right", "_law_made_right", "_law_hand_right", "_law_bad_right"]
theorem d_law : DefOk (defScope s_law) n_law p_law r_law g_law := defOk (by decide +kernel)
abbrev bl : List Str := ["isinstance", "int", "bool", "list", "all", "range", "len", "zip", "sorted", "any", "sum", "ValueError", "enumerate", "abs"]
/-! ### the mathematics' words -/
structure CardOk (m : Int) (c : List Int) : Prop where
  len : c.length ≤ 16
  wi : ∀ n ∈ c, 0 ≤ n ∧ n < m
  up : c.Pairwise (· < ·)
structure CardsOk (m : Int) (cs : List (List Int)) : Prop where
  len : cs.length ≤ 12
  all : ∀ c ∈ cs, CardOk m c
def marksP (cs : List (List Int)) (n : Int) : List Bool := cs.map fun c => decide (n ∈ c)
def unlikeP (a b : List Bool) : Int := (((a.zip b).filter fun p => !decide (p.1 = p.2)).length : Nat)
theorem marksP_len {cs : List (List Int)} {n : Int} : (marksP cs n).length = cs.length := List.length_map ..
theorem CardOk.at {m : Int} {c : List Int} (h : CardOk m c) {i : Nat} {x y : Int} (h1 : c[i]? = some x) (h2 : c[i + 1]? = some y) : x < y := by
  obtain ⟨a1, a2⟩ := List.getElem?_eq_some_iff.mp h1
  obtain ⟨b1, b2⟩ := List.getElem?_eq_some_iff.mp h2
  have := List.pairwise_iff_getElem.mp h.up i (i + 1) a1 b1 (by omega)
  rw [a2, b2] at this
  exact this
/-! ### the promises -/
section
variable {H : Hp} {Q : VK} {E : XK} {a b o : Addr} {rs rs' : List Addr} {cs cs' : List (List Int)} {m n i j : Int} {xs ys : List V}
def spWhole : Sp := fun vs H Q _ => ∃ v k, vs = [v] ∧ Kc H v k ∧ Q (.bl (isI k && !isB k)) H
theorem x_whole {v : V} {k : Kd} [c : Kc H v k] (q : Q (.bl (isI k && !isB k)) H) : spWhole [v] H Q E := ⟨v, k, rfl, c, q⟩
def spMany : Sp := fun vs H Q _ => ∃ m : Int, vs = [.int m] ∧ 1 ≤ m ∧ m ≤ 16 ∧ Q .non H
theorem x_many (h : 1 ≤ m ∧ m ≤ 16) (q : Q .non H) : spMany [.int m] H Q E := ⟨m, rfl, h.1, h.2, q⟩
def spCard : Sp := fun vs H Q _ => ∃ (a : Addr) (m : Int) (ns : List Int), vs = [.ref a, .int m] ∧ At H a (.lst (ns.map V.int)) ∧ CardOk m ns ∧ ∀ H', Up H H' → Q (.bl true) H'
def spCards : Sp := fun vs H Q _ => ∃ (a : Addr) (m : Int) (rs : List Addr) (cs : List (List Int)), vs = [.int m, .ref a] ∧ 1 ≤ m ∧ m ≤ 16 ∧ LL H a rs cs ∧ CardsOk m cs ∧ ∀ H', Up H H' → Q .non H'
theorem x_cards (h : 1 ≤ m ∧ m ≤ 16) [l : LL H a rs cs] (c : CardsOk m cs) (q : ∀ H', Up H H' → Q .non H') : spCards [.int m, .ref a] H Q E := ⟨a, m, rs, cs, rfl, h.1, h.2, l, c, q⟩
def spNumber : Sp := fun vs H Q _ => ∃ m n : Int, vs = [.int m, .int n] ∧ 0 ≤ n ∧ n < m ∧ Q .non H
theorem x_number (h : 0 ≤ n ∧ n < m) (q : Q .non H) : spNumber [.int m, .int n] H Q E := ⟨m, n, rfl, h.1, h.2, q⟩
def spMarksOf : Sp := fun vs H Q _ => ∃ (a : Addr) (n : Int) (rs : List Addr) (cs : List (List Int)), vs = [.ref a, .int n] ∧ LL H a rs cs ∧ cs.length ≤ 1000 ∧ ∀ p H', New H p (.lst ((marksP cs n).map V.bl)) H' → Q (.ref p) H'
theorem x_marksOf [l : LL H a rs cs] (h : cs.length ≤ 1000) (q : ∀ p H', New H p (.lst ((marksP cs n).map V.bl)) H' → Q (.ref p) H') : spMarksOf [.ref a, .int n] H Q E := ⟨a, n, rs, cs, rfl, l, h, q⟩
def spMarks : Sp := fun vs H Q _ => ∃ (a : Addr) (m n : Int) (rs : List Addr) (cs : List (List Int)), vs = [.int m, .ref a, .int n] ∧ (1 ≤ m ∧ m ≤ 16 ∧ 0 ≤ n ∧ n < m) ∧ LL H a rs cs ∧ CardsOk m cs ∧ ∀ p H', New H p (.lst ((marksP cs n).map V.bl)) H' → Q (.ref p) H'
theorem x_marks (h : 1 ≤ m ∧ m ≤ 16 ∧ 0 ≤ n ∧ n < m) [l : LL H a rs cs] (c : CardsOk m cs) (q : ∀ p H', New H p (.lst ((marksP cs n).map V.bl)) H' → Q (.ref p) H') : spMarks [.int m, .ref a, .int n] H Q E := ⟨a, m, n, rs, cs, rfl, h, l, c, q⟩
def spUnlike : Sp := fun vs H Q _ => ∃ (a b : Addr) (bs ds : List Bool), vs = [.ref a, .ref b] ∧ At H a (.lst (bs.map V.bl)) ∧ At H b (.lst (ds.map V.bl)) ∧ bs.length ≤ 1000 ∧ ∀ H', Up H H' → Q (.int (unlikeP bs ds)) H'
theorem x_unlike {bs ds : List Bool} [h1 : At H a (.lst xs)] [z1 : Bools xs bs] [h2 : At H b (.lst ys)] [z2 : Bools ys ds] (h : bs.length ≤ 1000) (q : ∀ H', Up H H' → Q (.int (unlikeP bs ds)) H') : spUnlike [.ref a, .ref b] H Q E := ⟨a, b, bs, ds, rfl, ⟨by rw [h1.h, z1.h]⟩, ⟨by rw [h2.h, z2.h]⟩, h, q⟩
def spParted : Sp := fun vs H Q _ => ∃ (a : Addr) (m i j : Int) (rs : List Addr) (cs : List (List Int)), vs = [.int m, .ref a, .int i, .int j] ∧ (1 ≤ m ∧ m ≤ 16 ∧ 0 ≤ i ∧ i < m ∧ 0 ≤ j ∧ j < m) ∧ LL H a rs cs ∧ CardsOk m cs ∧ ∀ H', Up H H' → Q (.int (unlikeP (marksP cs i) (marksP cs j))) H'
theorem x_parted (h : 1 ≤ m ∧ m ≤ 16 ∧ 0 ≤ i ∧ i < m ∧ 0 ≤ j ∧ j < m) [l : LL H a rs cs] (c : CardsOk m cs) (q : ∀ H', Up H H' → Q (.int (unlikeP (marksP cs i) (marksP cs j))) H') : spParted [.int m, .ref a, .int i, .int j] H Q E := ⟨a, m, i, j, rs, cs, rfl, h, l, c, q⟩
def spTogether : Sp := fun vs H Q _ => ∃ (a b : Addr) (m : Int) (rs rs' : List Addr) (cs cs' : List (List Int)), vs = [.int m, .ref a, .ref b] ∧ (1 ≤ m ∧ m ≤ 16) ∧ LL H a rs cs ∧ LL H b rs' cs' ∧ CardsOk m cs ∧ CardsOk m cs' ∧ cs.length + cs'.length ≤ 12 ∧ ∀ p ps H', NewLs H p ps ((cs ++ cs').map fun c => c.map V.int) H' → Q (.ref p) H'
theorem x_together (h : 1 ≤ m ∧ m ≤ 16) [l : LL H a rs cs] [l' : LL H b rs' cs'] (c : CardsOk m cs) (c' : CardsOk m cs') (hl : cs.length + cs'.length ≤ 12) (q : ∀ p ps H', NewLs H p ps ((cs ++ cs').map fun c => c.map V.int) H' → Q (.ref p) H') : spTogether [.int m, .ref a, .ref b] H Q E := ⟨a, b, m, rs, rs', cs, cs', rfl, h, l, l', c, c', hl, q⟩
def spOrdered : Sp := fun vs H Q _ => ∃ (a o : Addr) (m : Int) (rs : List Addr) (cs : List (List Int)) (os : List Nat), vs = [.int m, .ref a, .ref o] ∧ (1 ≤ m ∧ m ≤ 16) ∧ LL H a rs cs ∧ CardsOk m cs ∧ At H o (.lst (os.map fun (k : Nat) => V.int k)) ∧ os.Perm (List.range cs.length) ∧ ∀ p ps H', NewLs H p ps ((os.map fun k => cs.getD k []).map fun c => c.map V.int) H' → Q (.ref p) H'
theorem x_ordered {os : List Nat} (h : 1 ≤ m ∧ m ≤ 16) [l : LL H a rs cs] (c : CardsOk m cs) [h2 : At H o (.lst xs)] (hx : xs = os.map fun (k : Nat) => V.int k) (hp : os.Perm (List.range cs.length)) (q : ∀ p ps H', NewLs H p ps ((os.map fun k => cs.getD k []).map fun c => c.map V.int) H' → Q (.ref p) H') : spOrdered [.int m, .ref a, .ref o] H Q E := ⟨a, o, m, rs, cs, os, rfl, h, l, c, ⟨by rw [h2.h, hx]⟩, hp, q⟩
end
/-! ### answers: the mathematics' words -/
def nearP (cs : List (List Int)) (m : Int) (sd : List Bool) (l : Int) : List Int := ((List.range m.toNat).filter fun (k : Nat) => decide (unlikeP (marksP cs (k : Int)) sd ≤ l)).map fun (k : Nat) => (k : Int)
def pairP (cs : List (List Int)) (l i j : Int) : Bool := decide (unlikeP (marksP cs i) (marksP cs j) ≤ 2 * l)
def tellsP (cs : List (List Int)) (m l : Int) : Bool := (List.range m.toNat).all fun i => (List.range m.toNat).all fun j => !(decide (i < j) && pairP cs l (i : Int) (j : Int))
theorem tellsP_iff {cs : List (List Int)} {m l : Int} : tellsP cs m l = true ↔ ∀ i j : Nat, i < j → j < m.toNat → pairP cs l (i : Int) (j : Int) = false := by
  unfold tellsP
  constructor
  · intro h i j hij hj
    have h1 := List.all_eq_true.mp (List.all_eq_true.mp h i (List.mem_range.mpr (by omega))) j (List.mem_range.mpr hj)
    rw [decide_eq_true hij, Bool.true_and] at h1
    simpa using h1
  · intro h
    refine List.all_eq_true.mpr fun i hi => List.all_eq_true.mpr fun j hj => ?_
    by_cases hij : i < j
    · rw [h i j hij (List.mem_range.mp hj)]; simp
    · rw [decide_eq_false hij]; rfl
theorem tellsP_no {cs : List (List Int)} {m l : Int} {i j : Nat} (h1 : i < j) (h2 : j < m.toNat) (h : pairP cs l (i : Int) (j : Int) = true) : tellsP cs m l = false := by
  cases e : tellsP cs m l with
  | false => rfl
  | true => rw [tellsP_iff.mp e i j h1 h2] at h; cases h
def alikeP (cs : List (List Int)) (m l i j : Int) : Bool := decide (0 ≤ i ∧ i < j ∧ j < m) && pairP cs l i j
def wrongP (cs : List (List Int)) (n : Int) (sd : List Bool) : List Int := ((List.range cs.length).filter fun k => !decide ((marksP cs n).getD k false = sd.getD k false)).map fun (k : Nat) => (k : Int)
def thoughtP (cs : List (List Int)) (m : Int) (sd : List Bool) (l n : Int) (ws : List Int) : Bool := decide (nearP cs m sd l = [n]) && decide (ws = wrongP cs n sd)
def openP (cs : List (List Int)) (m : Int) (sd : List Bool) (l i j : Int) : Bool := decide (i < j) && (decide (i ∈ nearP cs m sd l) && decide (j ∈ nearP cs m sd l))
def nobodyP (cs : List (List Int)) (m : Int) (sd : List Bool) (l : Int) : Bool := decide (nearP cs m sd l = [])
instance : NeS "other" "one" := ⟨by decide⟩
instance : NeS "cards" "number" := ⟨by decide⟩
/-! ### answers: the promises -/
section
variable {H : Hp} {Q : VK} {E : XK} {a b o x C dx c : Addr} {rs : List Addr} {cs : List (List Int)} {m n i j l : Int} {xs : List V} {sd : List Bool} {v : V}
def spNear : Sp := fun vs H Q _ => ∃ (a s : Addr) (m l : Int) (rs : List Addr) (cs : List (List Int)) (sd : List Bool), vs = [.int m, .ref a, .ref s, .int l] ∧ LL H a rs cs ∧ At H s (.lst (sd.map V.bl)) ∧ (cs.length ≤ 1000 ∧ 0 ≤ m ∧ m ≤ 1000) ∧ ∀ p H', New H p (.lst ((nearP cs m sd l).map V.int)) H' → Q (.ref p) H'
theorem x_near [hL : LL H a rs cs] [hs : At H b (.lst xs)] [z : Bools xs sd] (h : cs.length ≤ 1000 ∧ 0 ≤ m ∧ m ≤ 1000) (q : ∀ p H', New H p (.lst ((nearP cs m sd l).map V.int)) H' → Q (.ref p) H') : spNear [.int m, .ref a, .ref b, .int l] H Q E := ⟨a, b, m, l, rs, cs, sd, rfl, hL, ⟨by rw [hs.h, z.h]⟩, h, q⟩
def spTells : Sp := fun vs H Q _ => ∃ (v : V) (a : Addr) (m l : Int) (rs : List Addr) (cs : List (List Int)), vs = [v, .int m, .ref a, .int l] ∧ LL H a rs cs ∧ (cs.length ≤ 1000 ∧ 0 ≤ m ∧ m ≤ 1000) ∧ ∀ H', Up H H' → Q (.bl (tellsP cs m l)) H'
theorem x_tells [hL : LL H a rs cs] (h : cs.length ≤ 1000 ∧ 0 ≤ m ∧ m ≤ 1000) (q : ∀ H', Up H H' → Q (.bl (tellsP cs m l)) H') : spTells [v, .int m, .ref a, .int l] H Q E := ⟨v, a, m, l, rs, cs, rfl, hL, h, q⟩
def spAlike (C : Addr) : Sp := fun vs H Q _ => ∃ (x a dx : Addr) (m l i j : Int) (rs : List Addr) (cs : List (List Int)), vs = [.ref x, .int m, .ref a, .int l] ∧ At H x (.ins C dx [("one", .int i), ("other", .int j)]) ∧ LL H a rs cs ∧ cs.length ≤ 1000 ∧ ∀ H', Up H H' → Q (.bl (alikeP cs m l i j)) H'
theorem x_alike [hx : At H x (.ins C dx [("one", .int i), ("other", .int j)])] [hL : LL H a rs cs] (h : cs.length ≤ 1000) (q : ∀ H', Up H H' → Q (.bl (alikeP cs m l i j)) H') : spAlike C [.ref x, .int m, .ref a, .int l] H Q E := ⟨x, a, dx, m, l, i, j, rs, cs, rfl, hx, hL, h, q⟩
def spThought (C : Addr) : Sp := fun vs H Q _ => ∃ (x a s c dx : Addr) (m l n : Int) (rs : List Addr) (cs : List (List Int)) (sd : List Bool) (ws : List Int), vs = [.ref x, .int m, .ref a, .ref s, .int l] ∧ At H x (.ins C dx [("number", .int n), ("cards", .ref c)]) ∧ At H c (.lst (ws.map V.int)) ∧ LL H a rs cs ∧ At H s (.lst (sd.map V.bl)) ∧ (cs.length ≤ 1000 ∧ 0 ≤ m ∧ m ≤ 1000 ∧ sd.length = cs.length) ∧ ∀ H', Up H H' → Q (.bl (thoughtP cs m sd l n ws)) H'
theorem x_thought {ws : List Int} {ys : List V} [hx : At H x (.ins C dx [("number", .int n), ("cards", .ref c)])] [hc : At H c (.lst ys)] [z2 : Ints ys ws] [hL : LL H a rs cs] [hs : At H b (.lst xs)] [z : Bools xs sd] (h : cs.length ≤ 1000 ∧ 0 ≤ m ∧ m ≤ 1000 ∧ sd.length = cs.length) (q : ∀ H', Up H H' → Q (.bl (thoughtP cs m sd l n ws)) H') : spThought C [.ref x, .int m, .ref a, .ref b, .int l] H Q E :=
  ⟨x, a, b, c, dx, m, l, n, rs, cs, sd, ws, rfl, hx, ⟨by rw [hc.h, z2.h]⟩, hL, ⟨by rw [hs.h, z.h]⟩, h, q⟩
def spOpen (C : Addr) : Sp := fun vs H Q _ => ∃ (x a s dx : Addr) (m l i j : Int) (rs : List Addr) (cs : List (List Int)) (sd : List Bool), vs = [.ref x, .int m, .ref a, .ref s, .int l] ∧ At H x (.ins C dx [("one", .int i), ("other", .int j)]) ∧ LL H a rs cs ∧ At H s (.lst (sd.map V.bl)) ∧ (cs.length ≤ 1000 ∧ 0 ≤ m ∧ m ≤ 1000) ∧ ∀ H', Up H H' → Q (.bl (openP cs m sd l i j)) H'
theorem x_open [hx : At H x (.ins C dx [("one", .int i), ("other", .int j)])] [hL : LL H a rs cs] [hs : At H b (.lst xs)] [z : Bools xs sd] (h : cs.length ≤ 1000 ∧ 0 ≤ m ∧ m ≤ 1000) (q : ∀ H', Up H H' → Q (.bl (openP cs m sd l i j)) H') : spOpen C [.ref x, .int m, .ref a, .ref b, .int l] H Q E := ⟨x, a, b, dx, m, l, i, j, rs, cs, sd, rfl, hx, hL, ⟨by rw [hs.h, z.h]⟩, h, q⟩
def spNobody : Sp := fun vs H Q _ => ∃ (v : V) (a s : Addr) (m l : Int) (rs : List Addr) (cs : List (List Int)) (sd : List Bool), vs = [v, .int m, .ref a, .ref s, .int l] ∧ LL H a rs cs ∧ At H s (.lst (sd.map V.bl)) ∧ (cs.length ≤ 1000 ∧ 0 ≤ m ∧ m ≤ 1000) ∧ ∀ H', Up H H' → Q (.bl (nobodyP cs m sd l)) H'
theorem x_nobody [hL : LL H a rs cs] [hs : At H b (.lst xs)] [z : Bools xs sd] (h : cs.length ≤ 1000 ∧ 0 ≤ m ∧ m ≤ 1000) (q : ∀ H', Up H H' → Q (.bl (nobodyP cs m sd l)) H') : spNobody [v, .int m, .ref a, .ref b, .int l] H Q E := ⟨v, a, b, m, l, rs, cs, sd, rfl, hL, ⟨by rw [hs.h, z.h]⟩, h, q⟩
/-- a Thought is made: the list copied -/
def spMkT (C : Addr) : Sp := fun vs H Q _ => ∃ (v : V) (c : Addr) (ys : List V), vs = [v, .ref c] ∧ At H c (.lst ys) ∧ ∀ x dx p H1 H', New H p (.lst ys) H1 → New H1 x (.ins C dx [("number", v), ("cards", .ref p)]) H' → Q (.ref x) H'
theorem x_mkT {ys : List V} [hc : At H c (.lst ys)] (q : ∀ x dx p H1 H', New H p (.lst ys) H1 → New H1 x (.ins C dx [("number", v), ("cards", .ref p)]) H' → Q (.ref x) H') : spMkT C [v, .ref c] H Q E := ⟨v, c, ys, rfl, hc, q⟩
end
/-! ### judged, told: the promises -/
section
variable {H : Hp} {Q : VK} {E : XK} {a b : Addr} {rs : List Addr} {cs : List (List Int)} {m l : Int} {xs : List V} {sd : List Bool} {cT cL cH cO cN : Addr}
def spLies : Sp := fun vs H Q _ => ∃ l : Int, vs = [.int l] ∧ 0 ≤ l ∧ Q .non H
theorem x_lies (h : 0 ≤ l) (q : Q .non H) : spLies [.int l] H Q E := ⟨l, rfl, h, q⟩
/-- what is told of cards: a Tells, or an Alike that is so -/
structure JudgedQ (cT cL : Addr) (cs : List (List Int)) (m l : Int) (H : Hp) (Q : VK) : Prop where
  tells : tellsP cs m l = true → ∀ x dx H1 H', Up H H1 → New H1 x (.ins cT dx []) H' → Q (.ref x) H'
  alike : tellsP cs m l = false → ∀ i j x dx H1 H', alikeP cs m l i j = true → Up H H1 → New H1 x (.ins cL dx [("one", .int i), ("other", .int j)]) H' → Q (.ref x) H'
def spJudged (cT cL : Addr) : Sp := fun vs H Q _ => ∃ (a : Addr) (m l : Int) (rs : List Addr) (cs : List (List Int)), vs = [.int m, .ref a, .int l] ∧ (1 ≤ m ∧ m ≤ 16 ∧ 0 ≤ l) ∧ LL H a rs cs ∧ CardsOk m cs ∧ JudgedQ cT cL cs m l H Q
theorem x_judged [hL : LL H a rs cs] (h : 1 ≤ m ∧ m ≤ 16 ∧ 0 ≤ l) (ok : CardsOk m cs) (q : JudgedQ cT cL cs m l H Q) : spJudged cT cL [.int m, .ref a, .int l] H Q E := ⟨a, m, l, rs, cs, rfl, h, hL, ok, q⟩
structure ToldQ (cH cO cN : Addr) (cs : List (List Int)) (m : Int) (sd : List Bool) (l : Int) (H : Hp) (Q : VK) : Prop where
  nobody : nearP cs m sd l = [] → ∀ x dx H1 H', Up H H1 → New H1 x (.ins cN dx []) H' → Q (.ref x) H'
  open_ : ∀ i j r, nearP cs m sd l = i :: j :: r → ∀ x dx H1 H', Up H H1 → New H1 x (.ins cO dx [("one", .int i), ("other", .int j)]) H' → Q (.ref x) H'
  thought : ∀ n, nearP cs m sd l = [n] → ∀ x dx p H1 H2 H', Up H H1 → New H1 p (.lst ((wrongP cs n sd).map V.int)) H2 → New H2 x (.ins cH dx [("number", .int n), ("cards", .ref p)]) H' → Q (.ref x) H'
def spTold (cH cO cN : Addr) : Sp := fun vs H Q _ => ∃ (a s : Addr) (m l : Int) (rs : List Addr) (cs : List (List Int)) (sd : List Bool), vs = [.int m, .ref a, .ref s, .int l] ∧ (1 ≤ m ∧ m ≤ 16 ∧ 0 ≤ l ∧ sd.length = cs.length) ∧ LL H a rs cs ∧ At H s (.lst (sd.map V.bl)) ∧ CardsOk m cs ∧ ToldQ cH cO cN cs m sd l H Q
theorem x_told [hL : LL H a rs cs] [hs : At H b (.lst xs)] [z : Bools xs sd] (h : 1 ≤ m ∧ m ≤ 16 ∧ 0 ≤ l ∧ sd.length = cs.length) (ok : CardsOk m cs) (q : ToldQ cH cO cN cs m sd l H Q) : spTold cH cO cN [.int m, .ref a, .ref b, .int l] H Q E := ⟨a, b, m, l, rs, cs, sd, rfl, h, hL, ⟨by rw [hs.h, z.h]⟩, ok, q⟩
end
/-! ### the law's helpers: promises -/
section
variable {H : Hp} {Q : VK} {E : XK} {a b s : Addr} {rs : List Addr} {cs : List (List Int)} {n c t u : Int} {xs ys : List V} {K : PySem.W.Frag}
def spLNum : Sp := fun vs H Q _ => ∃ c t u : Int, vs = [.int c, .int t, .int u] ∧ 0 ≤ t ∧ t ≤ 100 ∧ Bt 1048576 c ∧ ∀ z, Q (.int z) H
theorem x_lnum (h : 0 ≤ t ∧ t ≤ 100) (hc : Bt 1048576 c) (q : ∀ z, Q (.int z) H) : spLNum [.int c, .int t, .int u] H Q E := ⟨c, t, u, rfl, h.1, h.2, hc, q⟩
/-- the script: at most 63 numbers, none too great -/
structure Scr (ns : List Int) : Prop where
  len : ns.length ≤ 63
  bt : ∀ n ∈ ns, Bt 1048576 n
def spLCards (K : PySem.W.Frag) : Sp := fun vs H Q _ => ∃ (s : Addr) (ns : List Int) (by_ most wide : Int), vs = [.ref s, .int by_, .int most, .int wide] ∧ Sq K H s (ns.map V.int) ∧ Scr ns ∧ (0 ≤ by_ ∧ by_ ≤ 10 ∧ 1 ≤ most ∧ most ≤ 16 ∧ 0 ≤ wide ∧ wide ≤ 12) ∧
  ∀ (T D : Addr) (rs : List Addr) (m : Int) (cs : List (List Int)) (H1 H' : Hp), Up H H1 → NewLs H1 D rs (cs.map fun c => c.map V.int) H' → At H' T (.tup [.int m, .ref D]) → CardsOk m cs → 1 ≤ m → m ≤ most → (cs.length : Int) ≤ wide → Q (.ref T) H'
theorem x_lcards {ns : List Int} {by_ most wide : Int} [hs : Sq K H s xs] [z : Ints xs ns] (sc : Scr ns) (h : 0 ≤ by_ ∧ by_ ≤ 10 ∧ 1 ≤ most ∧ most ≤ 16 ∧ 0 ≤ wide ∧ wide ≤ 12)
    (q : ∀ (T D : Addr) (rs : List Addr) (m : Int) (cs : List (List Int)) (H1 H' : Hp), Up H H1 → NewLs H1 D rs (cs.map fun c => c.map V.int) H' → At H' T (.tup [.int m, .ref D]) → CardsOk m cs → 1 ≤ m → m ≤ most → (cs.length : Int) ≤ wide → Q (.ref T) H') :
    spLCards K [.ref s, .int by_, .int most, .int wide] H Q E := ⟨s, ns, by_, most, wide, rfl, ⟨by rw [← z.h]; exact hs.h⟩, sc, h, q⟩
theorem card_filter {m : Int} (h1 : 1 ≤ m) (h2 : m ≤ 16) (p : Nat → Bool) : CardOk m (((List.range m.toNat).filter p).map fun (k : Nat) => (k : Int)) := by
  refine ⟨?_, fun n hn => ?_, List.pairwise_map.mpr ?_⟩
  · rw [List.length_map]
    exact Nat.le_trans (List.length_filter_le _ _) (by rw [List.length_range]; omega)
  · obtain ⟨k, hk, rfl⟩ := List.mem_map.mp hn
    have := List.mem_range.mp (List.mem_filter.mp hk).1
    omega
  · refine List.Pairwise.imp (fun {a b} h => ?_) (List.Pairwise.filter p (List.pairwise_lt_range (n := m.toNat)))
    omega
/-- copied: new rows -/
def spCopied : Sp := fun vs H Q _ => ∃ (a : Addr) (rs : List Addr) (cs : List (List Int)), vs = [.ref a] ∧ LL H a rs cs ∧ cs.length ≤ 1000 ∧ ∀ p ps H', NewLs H p ps (cs.map fun c => c.map V.int) H' → Q (.ref p) H'
theorem x_copied [l : LL H a rs cs] (h : cs.length ≤ 1000) (q : ∀ p ps H', NewLs H p ps (cs.map fun c => c.map V.int) H' → Q (.ref p) H') : spCopied [.ref a] H Q E := ⟨a, rs, cs, rfl, l, h, q⟩
end
section
variable {H : Hp} {Q : VK} {E : XK} {a b s : Addr} {rs : List Addr} {cs : List (List Int)} {m : Int} {xs : List V} {K : PySem.W.Frag}
def spLSaid (K : PySem.W.Frag) : Sp := fun vs H Q _ => ∃ (s a : Addr) (ns : List Int) (by_ m : Int) (rs : List Addr) (cs : List (List Int)), vs = [.ref s, .int by_, .int m, .ref a] ∧ Sq K H s (ns.map V.int) ∧ Scr ns ∧ LL H a rs cs ∧ (0 ≤ by_ ∧ by_ ≤ 10 ∧ 1 ≤ m ∧ m ≤ 16 ∧ cs.length ≤ 12) ∧
  ∀ (p : Addr) (sd : List Bool) (H' : Hp), New H p (.lst (sd.map V.bl)) H' → sd.length = cs.length → Q (.ref p) H'
theorem x_lsaid {ns : List Int} {by_ : Int} [hs : Sq K H s xs] [z : Ints xs ns] (sc : Scr ns) [l : LL H a rs cs] (h : 0 ≤ by_ ∧ by_ ≤ 10 ∧ 1 ≤ m ∧ m ≤ 16 ∧ cs.length ≤ 12) (q : ∀ (p : Addr) (sd : List Bool) (H' : Hp), New H p (.lst (sd.map V.bl)) H' → sd.length = cs.length → Q (.ref p) H') :
    spLSaid K [.ref s, .int by_, .int m, .ref a] H Q E := ⟨s, a, ns, by_, m, rs, cs, rfl, ⟨by rw [← z.h]; exact hs.h⟩, sc, l, h, q⟩
def spSays : Sp := fun vs H Q _ => ∃ a b : Bool, vs = [.bl a, .bl b] ∧ Q (.bl (decide (a = b))) H
theorem x_says {a b : Bool} (q : Q (.bl (decide (a = b))) H) : spSays [.bl a, .bl b] H Q E := ⟨a, b, rfl, q⟩
end
/-! ### what is due: promises -/
theorem zip_swap_len (f : Bool × Bool → Bool) (hf : ∀ p, f p = f (p.2, p.1)) : ∀ a b : List Bool, ((a.zip b).filter f).length = ((b.zip a).filter f).length
  | [], b => by simp
  | x :: a, [] => by simp
  | x :: a, y :: b => by
    rw [List.zip_cons_cons, List.zip_cons_cons, List.filter_cons, List.filter_cons, hf (x, y)]
    split
    · rw [List.length_cons, List.length_cons, zip_swap_len f hf a b]
    · exact zip_swap_len f hf a b
theorem unlikeP_comm (a b : List Bool) : unlikeP a b = unlikeP b a := by
  unfold unlikeP
  rw [zip_swap_len _ (fun p => by
    show (!decide (p.1 = p.2)) = !decide (p.2 = p.1)
    rw [decide_eq_decide.mpr (eq_comm)]) a b]
theorem unlikeP_nn (a b : List Bool) : 0 ≤ unlikeP a b := by unfold unlikeP; omega
structure LeastOk (cs : List (List Int)) (S : Nat → Nat → Prop) (v : Int) : Prop where
  or : (v = -1 ∧ ∀ a b, ¬ S a b) ∨ (0 ≤ v ∧ (∀ a b, S a b → v ≤ unlikeP (marksP cs (a : Int)) (marksP cs (b : Int))) ∧ ∃ a b, S a b ∧ unlikeP (marksP cs (a : Int)) (marksP cs (b : Int)) = v)
theorem LeastOk.add {cs : List (List Int)} {S S' : Nat → Nat → Prop} {v : Int} {a b : Nat} (h : LeastOk cs S v) (hS : ∀ x y, S' x y ↔ S x y ∨ (x = a ∧ y = b)) :
    LeastOk cs S' (if v < 0 then unlikeP (marksP cs (a : Int)) (marksP cs (b : Int)) else min v (unlikeP (marksP cs (a : Int)) (marksP cs (b : Int)))) := by
  have nn := unlikeP_nn (marksP cs (a : Int)) (marksP cs (b : Int))
  refine ⟨.inr ?_⟩
  rcases h.or with ⟨h1, h2⟩ | ⟨h1, h2, x, y, h3, h4⟩
  · rw [if_pos (by omega)]
    refine ⟨nn, fun x y hxy => ?_, a, b, (hS a b).mpr (.inr ⟨rfl, rfl⟩), rfl⟩
    rcases (hS x y).mp hxy with z | ⟨rfl, rfl⟩
    · exact absurd z (h2 x y)
    · exact Int.le_refl _
  · rw [if_neg (by omega)]
    refine ⟨by omega, fun x' y' hxy => ?_, ?_⟩
    · rcases (hS x' y').mp hxy with z | ⟨rfl, rfl⟩
      · have := h2 x' y' z; omega
      · omega
    · by_cases c : v ≤ unlikeP (marksP cs (a : Int)) (marksP cs (b : Int))
      · exact ⟨x, y, (hS x y).mpr (.inl h3), by omega⟩
      · exact ⟨a, b, (hS a b).mpr (.inr ⟨rfl, rfl⟩), by omega⟩
theorem LeastOk.tells {cs : List (List Int)} {m l v : Int} (h : LeastOk cs (fun a b => b < a ∧ a < m.toNat) v) (hm : 2 ≤ m) : tellsP cs m l = decide (2 * l < v) := by
  rcases h.or with ⟨h1, h2⟩ | ⟨h1, h2, x, y, ⟨h3, h5⟩, h4⟩
  · exact absurd ⟨by omega, by omega⟩ (h2 1 0)
  · by_cases c : 2 * l < v
    · rw [decide_eq_true c]
      refine tellsP_iff.mpr fun i j hij hj => ?_
      unfold pairP
      have := h2 j i ⟨hij, hj⟩
      rw [unlikeP_comm] at this
      exact decide_eq_false (by omega)
    · rw [decide_eq_false c]
      refine tellsP_no h3 h5 ?_
      unfold pairP
      rw [unlikeP_comm, h4]
      exact decide_eq_true (by omega)
theorem tells_one {cs : List (List Int)} {l : Int} : tellsP cs 1 l = true := tellsP_iff.mpr fun i j h1 h2 => by
  have : (1 : Int).toNat = 1 := rfl
  omega
section
variable {H : Hp} {Q : VK} {E : XK} {a b x dx : Addr} {rs : List Addr} {cs : List (List Int)} {m l n i j : Int} {xs ys : List V} {sd : List Bool} {cT cL cH cO cN c : Addr} {ws : List Int}
def spLeast : Sp := fun vs H Q _ => ∃ (a : Addr) (m : Int) (rs : List Addr) (cs : List (List Int)), vs = [.int m, .ref a] ∧ LL H a rs cs ∧ (0 ≤ m ∧ m ≤ 16 ∧ cs.length ≤ 1000) ∧ ∀ v H', Up H H' → LeastOk cs (fun a b => b < a ∧ a < m.toNat) v → Q (.int v) H'
theorem x_least [hL : LL H a rs cs] (h : 0 ≤ m ∧ m ≤ 16 ∧ cs.length ≤ 1000) (q : ∀ v H', Up H H' → LeastOk cs (fun a b => b < a ∧ a < m.toNat) v → Q (.int v) H') : spLeast [.int m, .ref a] H Q E := ⟨a, m, rs, cs, rfl, hL, h, q⟩
def spLTells : Sp := fun vs H Q _ => ∃ (a : Addr) (m l : Int) (rs : List Addr) (cs : List (List Int)), vs = [.int m, .ref a, .int l] ∧ LL H a rs cs ∧ (1 ≤ m ∧ m ≤ 16 ∧ cs.length ≤ 1000) ∧ ∀ H', Up H H' → Q (.bl (tellsP cs m l)) H'
theorem x_ltells [hL : LL H a rs cs] (h : 1 ≤ m ∧ m ≤ 16 ∧ cs.length ≤ 1000) (q : ∀ H', Up H H' → Q (.bl (tellsP cs m l)) H') : spLTells [.int m, .ref a, .int l] H Q E := ⟨a, m, l, rs, cs, rfl, hL, h, q⟩
/-- an answer to judged, and what is due of it -/
inductive PairA (cT cL : Addr) (H : Hp) (x : Addr) (cs : List (List Int)) (m l : Int) : Bool → Prop where
  | tells {dx : Addr} (h : At H x (.ins cT dx [])) : PairA cT cL H x cs m l (tellsP cs m l)
  | alike {dx : Addr} {i j : Int} (h : At H x (.ins cL dx [("one", .int i), ("other", .int j)])) : PairA cT cL H x cs m l (alikeP cs m l i j)
def spPairDue (cT cL : Addr) : Sp := fun vs H Q _ => ∃ (a x : Addr) (m l : Int) (rs : List Addr) (cs : List (List Int)) (r : Bool), vs = [.int m, .ref a, .int l, .ref x] ∧ LL H a rs cs ∧ (1 ≤ m ∧ m ≤ 16 ∧ cs.length ≤ 1000) ∧ PairA cT cL H x cs m l r ∧ ∀ H', Up H H' → Q (.bl r) H'
theorem x_pairDue {r : Bool} [hL : LL H a rs cs] (p : PairA cT cL H x cs m l r) (h : 1 ≤ m ∧ m ≤ 16 ∧ cs.length ≤ 1000) (q : ∀ H', Up H H' → Q (.bl r) H') : spPairDue cT cL [.int m, .ref a, .int l, .ref x] H Q E := ⟨a, x, m, l, rs, cs, r, rfl, hL, h, p, q⟩
inductive ToldA (cH cO cN : Addr) (H : Hp) (x : Addr) (cs : List (List Int)) (m : Int) (sd : List Bool) (l : Int) : Bool → Prop where
  | nobody {dx : Addr} (h : At H x (.ins cN dx [])) : ToldA cH cO cN H x cs m sd l (nobodyP cs m sd l)
  | open_ {dx : Addr} {i j : Int} (h : At H x (.ins cO dx [("one", .int i), ("other", .int j)])) : ToldA cH cO cN H x cs m sd l (openP cs m sd l i j)
  | thought {dx c : Addr} {n : Int} {ws : List Int} (h : At H x (.ins cH dx [("number", .int n), ("cards", .ref c)])) (hc : At H c (.lst (ws.map V.int))) : ToldA cH cO cN H x cs m sd l (thoughtP cs m sd l n ws)
def spDue (cH cO cN : Addr) : Sp := fun vs H Q _ => ∃ (a s x : Addr) (m l : Int) (rs : List Addr) (cs : List (List Int)) (sd : List Bool) (r : Bool), vs = [.int m, .ref a, .ref s, .int l, .ref x] ∧ LL H a rs cs ∧ At H s (.lst (sd.map V.bl)) ∧ (1 ≤ m ∧ m ≤ 16 ∧ cs.length ≤ 1000 ∧ sd.length = cs.length) ∧ ToldA cH cO cN H x cs m sd l r ∧ ∀ H', Up H H' → Q (.bl r) H'
theorem x_due {r : Bool} [hL : LL H a rs cs] [hs : At H b (.lst xs)] [z : Bools xs sd] (p : ToldA cH cO cN H x cs m sd l r) (h : 1 ≤ m ∧ m ≤ 16 ∧ cs.length ≤ 1000 ∧ sd.length = cs.length) (q : ∀ H', Up H H' → Q (.bl r) H') : spDue cH cO cN [.int m, .ref a, .ref b, .int l, .ref x] H Q E := ⟨a, b, x, m, l, rs, cs, sd, r, rfl, hL, ⟨by rw [hs.h, z.h]⟩, h, p, q⟩
end
structure Ans (P : Program) (w : World) (K : PySem.W.Frag) (mg : Str → Option Value) (base : Heap) (cA cT cL cH cO cN : Addr) : Prop where
  gA : Gm mg "Answer" (.ref cA)
  gT : Gm mg "Tells" (.ref cT)
  kT : Kc0 K cT []
  tT : TiK K cT
  mT : MnD P w K mg base 0 "Tells" (spIns cT [])
  sT : Cm P w K mg base 2 cT "shows" spTells
  iTA : PySem.W.kitOne K (.ref cT) (.ref cA) = some true
  iTT : PySem.W.kitOne K (.ref cT) (.ref cT) = some true
  iTL : PySem.W.kitOne K (.ref cT) (.ref cL) = some false
  iTH : PySem.W.kitOne K (.ref cT) (.ref cH) = some false
  iTO : PySem.W.kitOne K (.ref cT) (.ref cO) = some false
  iTN : PySem.W.kitOne K (.ref cT) (.ref cN) = some false
  gL : Gm mg "Alike" (.ref cL)
  kL : Kc0 K cL ["one", "other"]
  tL : TiK K cL
  mL : MnD P w K mg base 2 "Alike" (spIns cL ["one", "other"])
  sL : Cm P w K mg base 2 cL "shows" (spAlike cL)
  iLA : PySem.W.kitOne K (.ref cL) (.ref cA) = some true
  iLT : PySem.W.kitOne K (.ref cL) (.ref cT) = some false
  iLL : PySem.W.kitOne K (.ref cL) (.ref cL) = some true
  iLH : PySem.W.kitOne K (.ref cL) (.ref cH) = some false
  iLO : PySem.W.kitOne K (.ref cL) (.ref cO) = some false
  iLN : PySem.W.kitOne K (.ref cL) (.ref cN) = some false
  gH : Gm mg "Thought" (.ref cH)
  kH : Kc0 K cH ["number", "cards"]
  tH : TiK K cH
  mH : MnD P w K mg base 2 "Thought" (spMkT cH)
  sH : Cm P w K mg base 3 cH "shows" (spThought cH)
  iHA : PySem.W.kitOne K (.ref cH) (.ref cA) = some true
  iHT : PySem.W.kitOne K (.ref cH) (.ref cT) = some false
  iHL : PySem.W.kitOne K (.ref cH) (.ref cL) = some false
  iHH : PySem.W.kitOne K (.ref cH) (.ref cH) = some true
  iHO : PySem.W.kitOne K (.ref cH) (.ref cO) = some false
  iHN : PySem.W.kitOne K (.ref cH) (.ref cN) = some false
  gO : Gm mg "Open" (.ref cO)
  kO : Kc0 K cO ["one", "other"]
  tO : TiK K cO
  mO : MnD P w K mg base 2 "Open" (spIns cO ["one", "other"])
  sO : Cm P w K mg base 3 cO "shows" (spOpen cO)
  iOA : PySem.W.kitOne K (.ref cO) (.ref cA) = some true
  iOT : PySem.W.kitOne K (.ref cO) (.ref cT) = some false
  iOL : PySem.W.kitOne K (.ref cO) (.ref cL) = some false
  iOH : PySem.W.kitOne K (.ref cO) (.ref cH) = some false
  iOO : PySem.W.kitOne K (.ref cO) (.ref cO) = some true
  iON : PySem.W.kitOne K (.ref cO) (.ref cN) = some false
  gN : Gm mg "Nobody" (.ref cN)
  kN : Kc0 K cN []
  tN : TiK K cN
  mN : MnD P w K mg base 0 "Nobody" (spIns cN [])
  sN : Cm P w K mg base 3 cN "shows" spNobody
  iNA : PySem.W.kitOne K (.ref cN) (.ref cA) = some true
  iNT : PySem.W.kitOne K (.ref cN) (.ref cT) = some false
  iNL : PySem.W.kitOne K (.ref cN) (.ref cL) = some false
  iNH : PySem.W.kitOne K (.ref cN) (.ref cH) = some false
  iNO : PySem.W.kitOne K (.ref cN) (.ref cO) = some false
  iNN : PySem.W.kitOne K (.ref cN) (.ref cN) = some true
/-- .. in a body -/
class AnsX (X : Cx) (cA cT cL cH cO cN : outParam Addr) : Prop where
  gA : Gv X "Answer" (.ref cA)
  gT : Gv X "Tells" (.ref cT)
  kT : Kl X cT []
  mT : Mn X "Tells" (spIns cT [])
  sT : Mt X cT "shows" spTells
  iTA : Ki X cT cA true
  iTT : Ki X cT cT true
  iTL : Ki X cT cL false
  iTH : Ki X cT cH false
  iTO : Ki X cT cO false
  iTN : Ki X cT cN false
  gL : Gv X "Alike" (.ref cL)
  kL : Kl X cL ["one", "other"]
  mL : Mn X "Alike" (spIns cL ["one", "other"])
  sL : Mt X cL "shows" (spAlike cL)
  iLA : Ki X cL cA true
  iLT : Ki X cL cT false
  iLL : Ki X cL cL true
  iLH : Ki X cL cH false
  iLO : Ki X cL cO false
  iLN : Ki X cL cN false
  gH : Gv X "Thought" (.ref cH)
  kH : Kl X cH ["number", "cards"]
  mH : Mn X "Thought" (spMkT cH)
  sH : Mt X cH "shows" (spThought cH)
  iHA : Ki X cH cA true
  iHT : Ki X cH cT false
  iHL : Ki X cH cL false
  iHH : Ki X cH cH true
  iHO : Ki X cH cO false
  iHN : Ki X cH cN false
  gO : Gv X "Open" (.ref cO)
  kO : Kl X cO ["one", "other"]
  mO : Mn X "Open" (spIns cO ["one", "other"])
  sO : Mt X cO "shows" (spOpen cO)
  iOA : Ki X cO cA true
  iOT : Ki X cO cT false
  iOL : Ki X cO cL false
  iOH : Ki X cO cH false
  iOO : Ki X cO cO true
  iON : Ki X cO cN false
  gN : Gv X "Nobody" (.ref cN)
  kN : Kl X cN []
  mN : Mn X "Nobody" (spIns cN [])
  sN : Mt X cN "shows" spNobody
  iNA : Ki X cN cA true
  iNT : Ki X cN cT false
  iNL : Ki X cN cL false
  iNH : Ki X cN cH false
  iNO : Ki X cN cO false
  iNN : Ki X cN cN true
section
variable {P : Program} {w : World} {K : PySem.W.Frag} {mg : Str → Option Value} {base : Heap} {X : Cx} {cA cT cL cH cO cN : Addr} {k : Nat}
theorem Bd.ans (b : Bd P w K mg base k X) (a : Ans P w K mg base cA cT cL cH cO cN) (hk : 3 ≤ k) : AnsX X cA cT cL cH cO cN where
  gA := b.gv a.gA
  gT := b.gv a.gT
  kT := b.kl a.kT
  mT := b.mn a.mT (by omega)
  sT := b.mt a.sT (by omega)
  iTA := b.ki a.tT a.iTA
  iTT := b.ki a.tT a.iTT
  iTL := b.ki a.tT a.iTL
  iTH := b.ki a.tT a.iTH
  iTO := b.ki a.tT a.iTO
  iTN := b.ki a.tT a.iTN
  gL := b.gv a.gL
  kL := b.kl a.kL
  mL := b.mn a.mL (by omega)
  sL := b.mt a.sL (by omega)
  iLA := b.ki a.tL a.iLA
  iLT := b.ki a.tL a.iLT
  iLL := b.ki a.tL a.iLL
  iLH := b.ki a.tL a.iLH
  iLO := b.ki a.tL a.iLO
  iLN := b.ki a.tL a.iLN
  gH := b.gv a.gH
  kH := b.kl a.kH
  mH := b.mn a.mH (by omega)
  sH := b.mt a.sH (by omega)
  iHA := b.ki a.tH a.iHA
  iHT := b.ki a.tH a.iHT
  iHL := b.ki a.tH a.iHL
  iHH := b.ki a.tH a.iHH
  iHO := b.ki a.tH a.iHO
  iHN := b.ki a.tH a.iHN
  gO := b.gv a.gO
  kO := b.kl a.kO
  mO := b.mn a.mO (by omega)
  sO := b.mt a.sO (by omega)
  iOA := b.ki a.tO a.iOA
  iOT := b.ki a.tO a.iOT
  iOL := b.ki a.tO a.iOL
  iOH := b.ki a.tO a.iOH
  iOO := b.ki a.tO a.iOO
  iON := b.ki a.tO a.iON
  gN := b.gv a.gN
  kN := b.kl a.kN
  mN := b.mn a.mN (by omega)
  sN := b.mt a.sN (by omega)
  iNA := b.ki a.tN a.iNA
  iNT := b.ki a.tN a.iNT
  iNL := b.ki a.tN a.iNL
  iNH := b.ki a.tN a.iNH
  iNO := b.ki a.tN a.iNO
  iNN := b.ki a.tN a.iNN
end
section
variable {X : Cx} {cA cT cL cH cO cN : Addr} [ax : AnsX X cA cT cL cH cO cN]
instance : Gv X "Answer" (.ref cA) := ax.gA
instance : Gv X "Tells" (.ref cT) := ax.gT
instance : Kl X cT [] := ax.kT
instance : Mn X "Tells" (spIns cT []) := ax.mT
instance : Mt X cT "shows" spTells := ax.sT
instance : Ki X cT cA true := ax.iTA
instance : Ki X cT cT true := ax.iTT
instance : Ki X cT cL false := ax.iTL
instance : Ki X cT cH false := ax.iTH
instance : Ki X cT cO false := ax.iTO
instance : Ki X cT cN false := ax.iTN
instance : Gv X "Alike" (.ref cL) := ax.gL
instance : Kl X cL ["one", "other"] := ax.kL
instance : Mn X "Alike" (spIns cL ["one", "other"]) := ax.mL
instance : Mt X cL "shows" (spAlike cL) := ax.sL
instance : Ki X cL cA true := ax.iLA
instance : Ki X cL cT false := ax.iLT
instance : Ki X cL cL true := ax.iLL
instance : Ki X cL cH false := ax.iLH
instance : Ki X cL cO false := ax.iLO
instance : Ki X cL cN false := ax.iLN
instance : Gv X "Thought" (.ref cH) := ax.gH
instance : Kl X cH ["number", "cards"] := ax.kH
instance : Mn X "Thought" (spMkT cH) := ax.mH
instance : Mt X cH "shows" (spThought cH) := ax.sH
instance : Ki X cH cA true := ax.iHA
instance : Ki X cH cT false := ax.iHT
instance : Ki X cH cL false := ax.iHL
instance : Ki X cH cH true := ax.iHH
instance : Ki X cH cO false := ax.iHO
instance : Ki X cH cN false := ax.iHN
instance : Gv X "Open" (.ref cO) := ax.gO
instance : Kl X cO ["one", "other"] := ax.kO
instance : Mn X "Open" (spIns cO ["one", "other"]) := ax.mO
instance : Mt X cO "shows" (spOpen cO) := ax.sO
instance : Ki X cO cA true := ax.iOA
instance : Ki X cO cT false := ax.iOT
instance : Ki X cO cL false := ax.iOL
instance : Ki X cO cH false := ax.iOH
instance : Ki X cO cO true := ax.iOO
instance : Ki X cO cN false := ax.iON
instance : Gv X "Nobody" (.ref cN) := ax.gN
instance : Kl X cN [] := ax.kN
instance : Mn X "Nobody" (spIns cN []) := ax.mN
instance : Mt X cN "shows" spNobody := ax.sN
instance : Ki X cN cA true := ax.iNA
instance : Ki X cN cT false := ax.iNT
instance : Ki X cN cL false := ax.iNL
instance : Ki X cN cH false := ax.iNH
instance : Ki X cN cO false := ax.iNO
instance : Ki X cN cN true := ax.iNN
end
local macro_rules | `(tactic| leaf_len) => `(tactic| repeat first
  | ((with_reducible refine gE ?_); first | ((with_reducible refine gN ?_); first | refine e_var ?_ | refine e_gv ?_ | refine e_tint ?_ | refine e_tbool ?_ | refine e_tlist ?_ | refine e_ttup ?_ | refine e_tstr ?_ | refine e_varS ?_ | refine e_gvS ?_ | refine e_veS ?_) | ((with_reducible refine gK ?_); first | refine e_int ?_ | refine e_bl ?_ | refine e_non ?_ | refine e_str ?_) | ((with_reducible refine gM ?_); first | refine c_eq ?_ | refine c_ne ?_ | refine c_lt ?_ | refine c_le ?_ | refine c_gt ?_ | refine c_ge ?_ | refine c_in ?_ | refine c_ni ?_ | refine c_is ?_ | refine c_isn ?_ | refine c_lelt ?_ | refine c_lele ?_) | ((with_reducible refine gO ?_); first | refine e_add ?_ | refine e_sub ?_ | refine e_mul ?_ | refine e_mod ?_ | refine e_div ?_ | refine e_pow ?_ | refine e_shr ?_ | refine e_bitand ?_) | ((with_reducible refine gC ?_); first | refine e_len ?_ | refine e_isi ?_ | refine e_isE ?_ | refine e_callX ?_ | refine e_call ?_ | refine e_call0 ?_ | refine e_make ?_ | refine e_make0 ?_ | refine e_all ?_ | refine e_abs ?_ | refine e_sum ?_ | refine e_anyI ?_ | refine e_min ?_ | refine e_sorted ?_ | refine e_listR ?_ | refine e_list ?_ | refine e_intc ?_) | refine e_append ?_ | refine e_lst ?_ | refine e_sl0 ?_ | refine e_sl1 ?_ | refine e_rev ?_ | refine e_tup ?_ | refine e_sub' ?_ | refine e_and ?_ | refine e_or ?_ | refine e_one ?_ | refine e_not ?_ | refine e_if ?_ | refine e_neg ?_ | refine e_fld ?_ | refine e_extend ?_ | refine e_clear ?_ | refine e_reverse ?_)
  | ((with_reducible refine gB ?_); first | refine b_asg ?_ | refine b_ret ?_ | refine b_if ?_ | refine b_expr ?_ | refine b_nil ?_ | refine b_tup2 ?_ | refine b_asgS ?_ | refine b_raise ?_)
  | ((with_reducible refine gT ?_); first | refine t_not ?_ | refine t_call ?_ | refine t_and ?_ | refine t_or ?_ | refine t_eq ?_ | refine t_ne ?_ | refine t_lt ?_ | refine t_le ?_ | refine t_gt ?_ | refine t_ge ?_ | refine t_in ?_ | refine t_ni ?_ | refine t_is ?_ | refine t_isn ?_ | refine t_lelt ?_ | refine t_lele ?_ | refine t_name ?_ | refine t_sub ?_ | refine t_leltlt ?_ | refine t_fld ?_)
  | ((with_reducible refine gW ?_); first | refine w_or ?_ | refine w_and ?_ | refine w_and1 ?_ | refine w_or1 ?_)
  | ((with_reducible refine gA ?_); first | refine a_cons ?_ | refine a_nil ?_)
  | (with_reducible refine x_asB ?_) | (with_reducible refine x_add ?_) | (with_reducible refine x_sub ?_) | (with_reducible refine x_lt ?_) | (with_reducible refine x_le ?_) | (with_reducible refine x_gt ?_) | (with_reducible refine x_ge ?_) | (with_reducible refine x_eqI ?_) | (with_reducible refine x_neI ?_) | (with_reducible refine x_eqB ?_) | (with_reducible refine x_neB ?_) | (with_reducible refine x_isB ?_) | (with_reducible refine x_isnB ?_) | (with_reducible refine x_isN ?_) | (with_reducible refine y_len ?_) | (with_reducible refine y_sum ?_) | (with_reducible refine y_all ?_) | (with_reducible refine y_anyI ?_) | (with_reducible refine y_inI ?_) | (with_reducible refine x_isiK ?_) | (with_reducible refine x_abs ?_) | (with_reducible refine x_min ?_) | (with_reducible refine x_intB ?_) | (with_reducible refine x_bitand ?_) | (with_reducible refine x_neg ?_) | (with_reducible refine x_fld ?_) | (with_reducible refine x_isiO ?_) | (with_reducible refine x_isE ?_) | (with_reducible refine x_whole ?_)
  | ((with_reducible refine gI ?_); first | refine iteYd (by assumption) ?_ | refine iteNd (by assumption) ?_ | refine iteYn (by assumption) ?_ | refine iteNn (by assumption) ?_ | refine iteY rfl ?_ | refine iteF' rfl ?_)
  | ((with_reducible refine gMul ?_); first | refine x_mulL (by omega) ?_ | refine x_mulR (by omega) ?_)
  | ((with_reducible refine gMod ?_); first | refine x_mod (by omega) ?_)
  | ((with_reducible refine gDiv ?_); first | refine x_divO (by omega) ?_)
  | ((with_reducible refine gShr ?_); first | refine x_shr (by omega) ?_)
  | ((with_reducible refine gEq ?_); first | refine y_eqD (List Int) ?_ | refine y_eqD (List Bool) ?_ | refine y_eqD (List (List Int)) ?_)
  | ((with_reducible refine gNe ?_); first | refine y_neD (List Int) ?_ | refine y_neD (List Bool) ?_ | refine y_neD (List (List Int)) ?_)
  | ((with_reducible refine gAnd ?_); first | ((with_reducible refine x_lst0 rfl ?_); intro _ _ _))
  | ((with_reducible refine gExi ?_); first | (with_reducible refine x_put ?_) | (with_reducible refine x_p2 ?_) | (with_reducible refine x_p3 ?_) | (with_reducible refine x_t2 ?_) | (with_reducible refine x_app1 ?_) | (refine x_sl0 (by omega) ?_; intro _ _ _) | (refine x_sl1 (by omega) ?_; intro _ _ _)))
local macro_rules | `(tactic| one_sign) => `(tactic| ((first | refine iteYd (by omega) ?_ | refine iteNd (by omega) ?_ | refine iteYn (by omega) ?_ | refine iteNn (by omega) ?_); leaf_len))
/-! ### best: promises -/
def fewP (m : Int) : Int := if m = 1 then 0 else if m = 2 then 3 else if m < 5 then 5 else if m < 9 then 6 else 7
def spFew1 : Sp := fun vs H Q _ => ∃ m : Int, vs = [.int m, .int 1] ∧ 1 ≤ m ∧ Q (.int (fewP m)) H
theorem x_few1 {m : Int} {H : Hp} {Q : VK} {E : XK} (h : 1 ≤ m) (q : Q (.int (fewP m)) H) : spFew1 [.int m, .int 1] H Q E := ⟨m, rfl, h, q⟩
/-- the table of the program -/
def codeP : List (List Int) := [[1, 1, 0, 1, 0, 0, 0], [0, 1, 1, 0, 1, 0, 0], [1, 1, 1, 0, 0, 1, 0], [1, 0, 1, 0, 0, 0, 1]]
def cellP (bit at_ : Nat) : Int := (codeP.getD bit []).getD at_ 0
def bitP (n at_ : Nat) : Int := ((List.range 4).map fun bit => cellP bit at_ * Builtin.bitAnd ((n : Int) / 2 ^ bit) 1).sum % 2
/-- the word of a number -/
def wordP (n : Nat) : List Int := (List.range 7).map fun a => bitP n a
/-- the words of a size, in order of their numbers -/
def wordsP (size : Int) (n : Nat) : List (List Int) := ((List.range n).filter fun k => decide (size = 7) || !((wordP k).drop size.toNat).any fun x => decide (x ≠ 0)).map fun k => (wordP k).take size.toNat
def insW (x : List Int) : List (List Int) → List (List Int)
  | [] => [x]
  | y :: l => if HT.lexLt x y = true then x :: y :: l else y :: insW x l
/-- the words of a size, sorted -/
def ordW (size : Int) : List (List Int) := if size = 3 then [[0, 0, 0], [1, 1, 1]] else (wordsP size 16).foldr insW []
def bestP (m : Int) : List (List Int) := (List.range (fewP m).toNat).map fun a => ((List.range m.toNat).filter fun n => decide (((ordW (fewP m)).getD n []).getD a 0 = 1)).map fun (n : Nat) => (n : Int)
def spBest1 : Sp := fun vs H Q _ => ∃ m : Int, vs = [.int m, .int 1] ∧ (1 ≤ m ∧ m ≤ 16) ∧ ∀ p rs H', NewLs H p rs ((bestP m).map fun c => c.map V.int) H' → Q (.ref p) H'
theorem ordW_ok : ∀ size ∈ ([5, 6, 7] : List Int), (ordW size).Pairwise (fun x y => HT.lexLt y x = false) ∧ (ordW size).Perm (wordsP size 16) := by decide +kernel
theorem few_in {m : Int} (h : 1 ≤ m) (h2 : m ≤ 16) : fewP m ∈ ([0, 3, 5, 6, 7] : List Int) ∧ m ≤ (2 : Int) ^ (fewP m).toNat := by
  have : ∀ k ∈ List.range 16, fewP ((k : Int) + 1) ∈ ([0, 3, 5, 6, 7] : List Int) ∧ (k : Int) + 1 ≤ (2 : Int) ^ (fewP ((k : Int) + 1)).toNat := by decide +kernel
  have q := this (m - 1).toNat (List.mem_range.mpr (by omega))
  rw [show (((m - 1).toNat : Nat) : Int) + 1 = m by omega] at q
  exact q
theorem wordsP_succ {size : Int} {n : Nat} : wordsP size (n + 1) = wordsP size n ++ (if (decide (size = 7) || !((wordP n).drop size.toNat).any fun x => decide (x ≠ 0)) = true then [(wordP n).take size.toNat] else []) := by
  unfold wordsP
  rw [List.range_succ, List.filter_append, List.map_append]
  congr 1
  rw [List.filter_cons]
  split
  · rfl
  · rfl
theorem wordsP_len {size : Int} {n : Nat} : (wordsP size n).length ≤ n := by
  unfold wordsP
  rw [List.length_map]
  exact Nat.le_trans (List.length_filter_le _ _) (by rw [List.length_range]; exact Nat.le_refl _)
theorem any_ne (l : List Int) : ((l.map fun n => n != 0).any id) = l.any fun x => decide (x ≠ 0) := by
  rw [List.any_map]
  congr 1
  funext x
  show (x != 0) = decide (x ≠ 0)
  by_cases h : x = 0
  · subst h; rfl
  · rw [decide_eq_true h]; exact bne_iff_ne.mpr h
theorem ord_size {m : Int} (h : 1 ≤ m) (h2 : m ≤ 16) (h3 : fewP m ≠ 0) : m ≤ (ordW (fewP m)).length ∧ ∀ w ∈ ordW (fewP m), (w.length : Int) = fewP m := by
  have : ∀ k ∈ List.range 16, fewP ((k : Int) + 1) ≠ 0 → (k : Int) + 1 ≤ (ordW (fewP ((k : Int) + 1))).length ∧ ∀ w ∈ ordW (fewP ((k : Int) + 1)), (w.length : Int) = fewP ((k : Int) + 1) := by decide +kernel
  have q := this (m - 1).toNat (List.mem_range.mpr (by omega))
  rw [show (((m - 1).toNat : Nat) : Int) + 1 = m by omega] at q
  exact q h3
/-! ### made, fewest, best: the mathematics' words -/
/-- the numbers that have the figure f where the place's step is st -/
def colP (m b st f : Int) : List Int := ((List.range m.toNat).filter fun (n : Nat) => decide ((n : Int) / st % b = f)).map fun (n : Nat) => (n : Int)
def placeP (m b : Int) (p : Nat) : List (List Int) := (List.range (b - 1).toNat).map fun (f : Nat) => colP m b (b ^ p) (1 + (f : Int))
/-- how many places -/
def plP (m b : Int) : Nat := ((List.range 5).filter fun p => decide (b ^ p < m)).length
def preP (m b : Int) (k : Nat) : List (List Int) := ((List.range k).map fun p => placeP m b p).flatten
def madeP (m b : Int) : List (List Int) := preP m b (plP m b)
/-- m from 1 to 16, b from 2 to 16 -/
theorem all_mb {F : Int → Int → Bool} (h : ((List.range 16).all fun (i : Nat) => (List.range 15).all fun (j : Nat) => F ((i : Int) + 1) ((j : Int) + 2)) = true) {m b : Int} (h1 : 1 ≤ m ∧ m ≤ 16) (h2 : 2 ≤ b ∧ b ≤ 16) : F m b = true := by
  have q := List.all_eq_true.mp (List.all_eq_true.mp h (m - 1).toNat (List.mem_range.mpr (by omega))) (b - 2).toNat (List.mem_range.mpr (by omega))
  rw [show (((m - 1).toNat : Nat) : Int) + 1 = m by omega, show (((b - 2).toNat : Nat) : Int) + 2 = b by omega] at q
  exact q
theorem plP_ok {m b : Int} (h1 : 1 ≤ m ∧ m ≤ 16) (h2 : 2 ≤ b ∧ b ≤ 16) : plP m b ≤ 4 ∧ ∀ k, k ≤ 4 → (1 ≤ b ^ k ∧ b ^ k ≤ 65536) ∧ (b ^ k < m ↔ k < plP m b) := by
  have q := all_mb (F := fun m b => decide (plP m b ≤ 4) && (List.range 5).all fun k => decide ((1 ≤ b ^ k ∧ b ^ k ≤ 65536) ∧ (b ^ k < m ↔ k < plP m b))) (by decide +kernel) h1 h2
  obtain ⟨a, c⟩ := (Bool.and_eq_true _ _).mp q
  exact ⟨of_decide_eq_true a, fun k hk => of_decide_eq_true (List.all_eq_true.mp c k (List.mem_range.mpr (by omega)))⟩
theorem preP_succ {m b : Int} {k : Nat} : preP m b (k + 1) = preP m b k ++ placeP m b k := by
  unfold preP
  rw [List.range_succ, List.map_append, List.flatten_append]
  simp
theorem placeP_succ {m b : Int} {p i : Nat} (h : i < (b - 1).toNat) : (placeP m b p).take (i + 1) = (placeP m b p).take i ++ [colP m b (b ^ p) (1 + (i : Int))] := by
  refine take_snoc ?_
  unfold placeP
  rw [List.getElem?_map, List.getElem?_eq_getElem (by rw [List.length_range]; exact h), List.getElem_range]
  rfl
theorem placeP_len {m b : Int} {p : Nat} : (placeP m b p).length = (b - 1).toNat := by unfold placeP; rw [List.length_map, List.length_range]
theorem preP_len {m b : Int} {k : Nat} : (preP m b k).length = k * (b - 1).toNat := by
  induction k with
  | zero => simp [preP]
  | succ k ih => rw [preP_succ, List.length_append, ih, placeP_len, Nat.succ_mul]
def spMade : Sp := fun vs H Q _ => ∃ m b : Int, vs = [.int m, .int b] ∧ (1 ≤ m ∧ m ≤ 16) ∧ (2 ≤ b ∧ b ≤ 16) ∧ ∀ p rs H', NewLs H p rs ((madeP m b).map fun c => c.map V.int) H' → Q (.ref p) H'
theorem x_made {H : Hp} {Q : VK} {E : XK} {m b : Int} (h : 1 ≤ m ∧ m ≤ 16) (h2 : 2 ≤ b ∧ b ≤ 16) (q : ∀ p rs H', NewLs H p rs ((madeP m b).map fun c => c.map V.int) H' → Q (.ref p) H') : spMade [.int m, .int b] H Q E := ⟨m, b, rfl, h, h2, q⟩
theorem made_ok {m b : Int} (h : 1 ≤ m ∧ m ≤ 16) (hl : (madeP m b).length ≤ 12) : CardsOk m (madeP m b) := by
  refine ⟨hl, fun c hc => ?_⟩
  unfold madeP preP at hc
  obtain ⟨l, hl, hc⟩ := List.mem_flatten.mp hc
  obtain ⟨p, _, rfl⟩ := List.mem_map.mp hl
  unfold placeP at hc
  obtain ⟨f, _, rfl⟩ := List.mem_map.mp hc
  unfold colP
  exact card_filter h.1 h.2 _
/-- so few places tell m numbers -/
structure Few0 (m : Int) (k : Nat) : Prop where
  hi : m ≤ 2 ^ k
  lo : ∀ g, g < k → (2 : Int) ^ g < m
theorem Few0.uniq {m : Int} {k j : Nat} (h : Few0 m k) (g : Few0 m j) : k = j := by
  rcases Nat.lt_trichotomy k j with l | l | l
  · have := g.lo k l; have := h.hi; omega
  · exact l
  · have := h.lo j l; have := g.hi; omega
def FewIn (m l : Int) : Prop := (l = 0 ∧ 1 ≤ m ∧ Bt 2000000 m) ∨ (l = 1 ∧ 1 ≤ m ∧ m ≤ 16)
structure FewIs (m l f : Int) : Prop where
  z : l = 0 → ∃ k : Nat, f = k ∧ Few0 m k
  o : l = 1 → f = fewP m
def spFewOf : Sp := fun vs H Q _ => ∃ m l : Int, vs = [.int m, .int l] ∧ FewIn m l ∧ ∀ f, FewIs m l f → Q (.int f) H
theorem x_fewOf {H : Hp} {Q : VK} {E : XK} {m l : Int} (h : FewIn m l) (q : ∀ f, FewIs m l f → Q (.int f) H) : spFewOf [.int m, .int l] H Q E := ⟨m, l, rfl, h, q⟩
/-- the same, looked at: a tuple is made behind it -/
def spFewest : Sp := fun vs H Q _ => ∃ m l : Int, vs = [.int m, .int l] ∧ FewIn m l ∧ ∀ f H', Up H H' → FewIs m l f → Q (.int f) H'
theorem x_fewest {H : Hp} {Q : VK} {E : XK} {m l : Int} (h : FewIn m l) (q : ∀ f H', Up H H' → FewIs m l f → Q (.int f) H') : spFewest [.int m, .int l] H Q E := ⟨m, l, rfl, h, q⟩
theorem few_of1 {m : Int} (h : 1 ≤ m ∧ m ≤ 16) : ∀ vs H Q E, (∃ m : Int, vs = [V.int m, .int 1] ∧ (1 ≤ m ∧ m ≤ 16) ∧ Q (.int (fewP m)) H) → spFewOf vs H Q E := fun vs H Q E ⟨m, e, h, q⟩ => ⟨m, 1, e, .inr ⟨rfl, h.1, h.2⟩, fun f hf => by rw [hf.o rfl]; exact q⟩
def bestL (m l : Int) : List (List Int) := if l = 0 then madeP m 2 else bestP m
def spBest : Sp := fun vs H Q _ => ∃ m l : Int, vs = [.int m, .int l] ∧ (1 ≤ m ∧ m ≤ 16) ∧ (l = 0 ∨ l = 1) ∧ ∀ p rs H', NewLs H p rs ((bestL m l).map fun c => c.map V.int) H' → Q (.ref p) H'
theorem x_best {H : Hp} {Q : VK} {E : XK} {m l : Int} (h : 1 ≤ m ∧ m ≤ 16) (hl : l = 0 ∨ l = 1) (q : ∀ p rs H', NewLs H p rs ((bestL m l).map fun c => c.map V.int) H' → Q (.ref p) H') : spBest [.int m, .int l] H Q E := ⟨m, l, rfl, h, hl, q⟩
section
variable {P : Program} {w : World} {K : PySem.W.Frag} {mg : Str → Option Value} {base : Heap}
theorem k_made (F : Df K mg "made" s_made p_made) (hB : ∀ y ∈ bl, mg y = none) (gM : Gm mg "MOST" (.int 16)) (kA : Kn P w K mg base 2 "asked_many" p_asked_many spMany) (kW : Kn P w K mg base 1 "is_whole" p_is_whole spWhole) : Kn P w K mg base 3 "made" p_made spMade := by
  refine okd F d_made hB (fun vs H Q E ⟨m, b, e, _⟩ => by rw [e]; rfl) fun X bd C vs H Q E tk h => ?_
  obtain ⟨m, b, rfl, hm, hb, q⟩ := h
  have f1 := bd.fk kA (by decide)
  have f2 := bd.fk kW (by decide)
  have g1 := bd.gv gM
  have ru := bd.ru
  have po := bd.po
  obtain ⟨pl4, pk⟩ := plP_ok hm hb
  show sB X _ _ [some (.int m), some (.int b), none, none, none, none] H
  leaf_len
  refine x_many hm ?_
  leaf_len
  one_sign
  one_sign
  refine b_tupW rfl ?_
  leaf_len
  rename_i D H1 n1 T H2 n2
  refine b_while (fun left σ' H' => ∃ (k : Nat) (y4 : Option V) (rs : List Addr), left + k = plP m b ∧ σ' = [some (.int m), some (.int b), some (.ref D), some (.int (b ^ k)), y4, none] ∧ NewLs H D rs ((preP m b k).map fun c => c.map V.int) H') (plP m b) ⟨0, none, [], rfl, by rw [Int.pow_zero], (NewLs.nil n1).post n2.ex⟩ ?_
  rintro left σ' H' ⟨k, y4, rs, hk, rfl, nl⟩
  obtain ⟨sb, sl⟩ := pk k (by omega)
  leaf_len
  refine iteD (fun h1 => ?_) (fun h1 => ?_)
  · have hk' := sl.mp h1
    refine b_forR2 ?_
    leaf_len
    generalize hst : b ^ k = st at *
    refine ⟨1, b, rfl, rfl, by omega, fun i σ' H' => ∃ (y4 : Option V) (rs : List Addr), σ' = [some (.int m), some (.int b), some (.ref D), some (.int st), y4, none] ∧ NewLs H D rs ((preP m b k ++ (placeP m b k).take i).map fun c => c.map V.int) H', ⟨_, rs, rfl, by rw [List.take_zero, List.append_nil]; exact nl⟩, ?_, ?_⟩
    · clear nl
      rintro i σ' H' hi ⟨y4, rs, rfl, nl⟩
      have hl := nl.len
      rw [List.length_map, List.length_append, List.length_take, preP_len, placeP_len] at hl
      refine x_tp ?_
      leaf_len
      refine e_lc1 5 r_made_0 g_made_0 (by decide +kernel) (i_r1 ?_)
      leaf_len
      refine y_r1 (by omega) ?_
      refine lcR0 (fun n => decide ((n : Int) / st % b = 1 + (i : Int))) (fun n => .int (n : Nat)) rfl (by omega) (fun n hn Hc u => ?_) (fun p H3 n3 => ?_)
      · refine x_tp (tn1 fun X' s c => ?_)
        leaf_len
        refine x_tst rfl ?_
        intro _ X' s c
        leaf_len
        exact x_end rfl
      · have big : k * (b - 1).toNat ≤ 4 * 15 := Nat.mul_le_mul (by omega) (by omega)
        refine x_app2 (by rw [List.length_map]; omega) ?_
        leaf_len
        refine ⟨_, rs ++ [p], rfl, ?_⟩
        have := nl.app n3.ex n3.fr n3.at_
        rw [placeP_succ hi, ← List.append_assoc, List.map_append, List.map_cons, hst]
        unfold colP
        rw [List.map_map]
        exact this
    · clear nl
      rintro σ' H' ⟨y4, rs, rfl, nl⟩
      leaf_len
      refine ⟨left - 1, by omega, k + 1, y4, rs, by omega, ?_, ?_⟩
      · rw [Int.pow_succ, hst]
      · rw [preP_succ]
        have e : (placeP m b k).take (b - 1).toNat = placeP m b k := List.take_of_length_le (by rw [placeP_len]; exact Nat.le_refl _)
        rw [e] at nl
        exact nl
  · have hk' : ¬ k < plP m b := fun z => h1 (sl.mpr z)
    leaf_len
    have e : k = plP m b := by omega
    rw [e] at nl
    exact q D rs H' nl
end
section
variable {P : Program} {w : World} {K : PySem.W.Frag} {mg : Str → Option Value} {base : Heap}
theorem pow_mono2 {a b : Nat} (h : a ≤ b) : (2 : Int) ^ a ≤ 2 ^ b := by
  have := Nat.pow_le_pow_right (n := 2) (by decide) h
  exact_mod_cast this
theorem k_fewest_of (F : Df K mg "fewest_of" s_fewest_of p_fewest_of) (hB : ∀ y ∈ bl, mg y = none) : Kn P w K mg base 1 "fewest_of" p_fewest_of spFewOf := by
  refine okd F d_fewest_of hB (fun vs H Q E ⟨m, l, e, _⟩ => by rw [e]; rfl) fun X bd C vs H Q E tk h => ?_
  obtain ⟨m, l, rfl, hin, q⟩ := h
  have ru := bd.ru
  have po := bd.po
  rcases hin with ⟨rfl, h1, hb⟩ | ⟨rfl, hm, hm16⟩
  · show sB X _ _ [some (.int m), some (.int 0), none] H
    leaf_len
    have bt : m < 2 ^ 2000000 := by
      unfold Bt at hb
      have e : (m.natAbs : Int) = m := by omega
      rw [← e]
      have := Int.ofNat_lt.mpr hb
      rw [Int.natCast_pow] at this
      exact this
    refine b_while (fun left σ' H' => ∃ k : Nat, left + k = 2000001 ∧ σ' = [some (.int m), some (.int 0), some (.int (k : Nat))] ∧ H' = H ∧ ∀ g, g < k → (2 : Int) ^ g < m) 2000001 ⟨0, rfl, rfl, rfl, fun g hg => absurd hg (Nat.not_lt_zero g)⟩ ?_
    rintro left σ' H' ⟨k, hk, rfl, rfl, lo⟩
    refine t_lt ?_
    refine e_shl1 ?_
    leaf_len
    refine x_shl1 (k := k) (by omega) ?_
    leaf_len
    refine iteD (fun h2 => ?_) (fun h2 => ?_)
    · have k1 : k < 2000000 := by
        rcases Nat.lt_or_ge k 2000000 with z | z
        · exact z
        · exfalso
          have := pow_mono2 z
          generalize (2 : Int) ^ 2000000 = big at *
          omega
      leaf_len
      refine ⟨left - 1, by omega, k + 1, by omega, rfl, rfl, fun g hg => ?_⟩
      rcases Nat.lt_or_ge g k with z | z
      · exact lo g z
      · rw [show g = k by omega]
        exact h2
    · leaf_len
      exact q _ ⟨fun _ => ⟨k, rfl, by omega, lo⟩, fun z => absurd z (by decide)⟩
  · replace q : Q (.int (fewP m)) H := q _ ⟨fun z => absurd z (by decide), fun _ => rfl⟩
    show sB X _ _ [some (.int m), some (.int 1), none] H
    unfold fewP at q
    by_cases h1 : m = 1
    · subst h1
      leaf_len
      refine b_while (fun _ σ' H' => σ' = [some (.int 1), some (.int 1), some (.int 0)] ∧ H' = H) 0 ⟨rfl, rfl⟩ ?_
      rintro _ σ' H' ⟨rfl, rfl⟩
      refine t_lt ?_
      refine e_shl1 ?_
      leaf_len
      refine x_shl1 (k := 0) (by decide) ?_
      leaf_len
      exact q
    · rw [if_neg h1] at q
      leaf_len
      refine iteD (fun h2 => ?_) (fun h2 => ?_)
      · rw [if_pos h2] at q
        leaf_len
        exact q
      rw [if_neg h2] at q
      leaf_len
      refine iteD (fun h3 => ?_) (fun h3 => ?_)
      · rw [if_pos h3] at q
        leaf_len
        exact q
      rw [if_neg h3] at q
      leaf_len
      refine iteD (fun h4 => ?_) (fun h4 => ?_)
      · rw [if_pos h4] at q
        leaf_len
        exact q
      · rw [if_neg h4] at q
        leaf_len
        exact q
theorem k_fewest (F : Df K mg "fewest" s_fewest p_fewest) (hB : ∀ y ∈ bl, mg y = none) (gM : Gm mg "MOST" (.int 16)) (kW : Kn P w K mg base 1 "is_whole" p_is_whole spWhole) (kF : Kn P w K mg base 1 "fewest_of" p_fewest_of spFewOf) : Kn P w K mg base 2 "fewest" p_fewest spFewest := by
  refine okd F d_fewest hB (fun vs H Q E ⟨m, l, e, _⟩ => by rw [e]; rfl) fun X bd C vs H Q E tk h => ?_
  obtain ⟨m, l, rfl, hin, q⟩ := h
  have f1 := bd.fk kW (by decide)
  have f2 := bd.fk kF (by decide)
  have g1 := bd.gv gM
  have ru := bd.ru
  show sB X _ _ [some (.int m), some (.int l)] H
  have h1 : 1 ≤ m := by rcases hin with h | h <;> exact h.2.1
  leaf_len
  one_sign
  refine y_niT rfl ?_
  rcases hin with ⟨rfl, h1, hb⟩ | ⟨rfl, hm, hm16⟩
  · leaf_len
    refine x_fewOf (.inl ⟨rfl, h1, hb⟩) fun f hf => ?_
    exact q f _ ⟨Exs.ex⟩ hf
  · leaf_len
    one_sign
    refine x_fewOf (.inr ⟨rfl, hm, hm16⟩) fun f hf => ?_
    exact q f _ ⟨Exs.ex⟩ hf
theorem k_best {cd : Addr} {cr : List Addr} (F : Df K mg "best" s_best p_best) (hB : ∀ y ∈ bl, mg y = none) (gC : Gm mg "CODE" (.ref cd)) (tb : Tab K cd cr codeP) (kA : Kn P w K mg base 2 "asked_many" p_asked_many spMany) (kW : Kn P w K mg base 1 "is_whole" p_is_whole spWhole) (kF : Kn P w K mg base 1 "fewest_of" p_fewest_of spFewOf) (kM : Kn P w K mg base 3 "made" p_made spMade) : Kn P w K mg base 4 "best" p_best spBest := by
  refine okd F d_best hB (fun vs H Q E ⟨m, l, e, _⟩ => by rw [e]; rfl) fun X bd C vs H Q E tk h => ?_
  obtain ⟨m, l, rfl, hm, hl, q⟩ := h
  have f1 := bd.fk kA (by decide)
  have f2 := bd.fk kW (by decide)
  have f3 := bd.fk kF (by decide)
  have f4 := bd.fk kM (by decide)
  have g1 := bd.gv gC
  have ru := bd.ru
  have po := bd.po
  have hK := bd.K
  rcases hl with rfl | rfl
  · show sB X _ _ [some (.int m), some (.int 0), none, none, none, none, none, none] H
    leaf_len
    refine x_many hm ?_
    leaf_len
    refine y_niT rfl ?_
    leaf_len
    refine x_made hm (by decide) fun p rs H' nl => ?_
    exact q p rs H' (nl.pre Exs.ex)
  replace q : ∀ p rs H', NewLs H p rs ((bestP m).map fun c => c.map V.int) H' → Q (.ref p) H' := q
  obtain ⟨sIn, _⟩ := few_in hm.1 hm.2
  show sB X _ _ [some (.int m), some (.int 1), none, none, none, none, none, none] H
  leaf_len
  refine x_many hm ?_
  leaf_len
  refine y_niT rfl ?_
  leaf_len
  refine x_fewOf (.inr ⟨rfl, hm.1, hm.2⟩) fun fz hfz => ?_
  obtain rfl := hfz.o rfl
  leaf_len
  rename_i p0 H0 n0
  refine iteD (fun h0 => ?_) (fun h0 => ?_)
  · leaf_len
    rename_i pe He ne
    refine q pe [] He ?_
    have e : bestP m = [] := by unfold bestP; rw [h0]; rfl
    rw [e]
    exact NewLs.nil (ne.pre n0.ex)
  have os := ord_size hm.1 hm.2 h0
  generalize hsz : fewP m = size at sIn h0 os
  leaf_len
  rename_i pW HW nW
  refine b_forR ?_
  leaf_len
  refine ⟨16, rfl, by decide, by decide, fun i σ' H' => ∃ (y4 y5 : Option V) (rs : List Addr), σ' = [some (.int m), some (.int 1), some (.int size), some (.ref pW), y4, y5, none, none] ∧ NewLs H0 pW rs ((wordsP size i).map fun c => c.map V.int) H', ⟨_, _, [], rfl, NewLs.nil nW⟩, ?_, ?_⟩
  · rintro n σ' H' hn ⟨y4, y5, rs, rfl, nl⟩
    refine x_tp ?_
    refine b_lc1 6 r_best_0 g_best_0 (by decide +kernel) (by decide +kernel) (i_r1 ?_)
    leaf_len
    refine y_r1 (by omega) ?_
    refine lcR0 (fun _ => true) (fun a => .int (bitP n a)) rfl (by omega) (fun a ha Hc u => ?_) (fun pw H1 n1 => ?_)
    · refine x_tp (tn0 fun X' s c => ?_)
      leaf_len
      refine e_lc1 7 r_best_0_0 g_best_0_0 (by decide +kernel) (i_r1 ?_)
      leaf_len
      refine y_r1 (by omega) ?_
      refine lcR0 (fun _ => true) (fun b => .int (cellP b a * Builtin.bitAnd ((n : Int) / 2 ^ b) 1)) rfl (by omega) (fun b hb Hc2 u2 => ?_) (fun ps H2 n2 => ?_)
      · refine x_tp (tn0 fun X2 s2 c2 => ?_)
        leaf_len
        have hb4 : b < 4 := hb
        have ha7 : a < 7 := ha
        have lr : cr.length = 4 := tb.len
        obtain ⟨r, hr, _⟩ := get_lt (as := cr) (i := b) (by omega)
        have hz : (r, codeP.getD b []) ∈ cr.zip codeP := by
          refine List.mem_of_getElem? (i := b) ?_
          rw [List.getElem?_zip_eq_some]
          refine ⟨hr, ?_⟩
          rw [List.getD_eq_getElem?_getD, List.getElem?_eq_getElem (show b < codeP.length from hb4)]
          rfl
        have kk : X2.K = K := by rw [s2.K, s.K, hK]
        refine x_ixT (n := b) (v := .ref r) (by rw [kk]; exact tb.top _) (by rw [List.getElem?_map, hr]; rfl) rfl ?_
        leaf_len
        refine x_ixT (n := a) (v := .int (cellP b a)) (by rw [kk]; exact tb.row _ hz _) ?_ rfl ?_
        · rw [List.getElem?_map]
          have : ∀ b ∈ List.range 4, ∀ a ∈ List.range 7, (codeP.getD b [])[a]? = some (cellP b a) := by decide +kernel
          rw [this b (List.mem_range.mpr hb4) a (List.mem_range.mpr ha7)]
          rfl
        leaf_len
        have hc : ∀ b ∈ List.range 4, ∀ a ∈ List.range 7, 0 ≤ cellP b a ∧ cellP b a ≤ 1 := by decide +kernel
        have hc' := hc b (List.mem_range.mpr hb4) a (List.mem_range.mpr ha7)
        refine x_mulL (by omega) ?_
        exact x_end rfl
      leaf_len
      exact ⟨Exs.ex, by rw [filter_true]; rfl⟩
    replace n1 : New H' pw (.lst ((wordP n).map V.int)) H1 := by
      rw [filter_true] at n1
      unfold wordP
      rw [List.map_map]
      exact n1
    have lw : (wordP n).length = 7 := by unfold wordP; rw [List.length_map, List.length_range]
    refine x_put ?_
    have s0 : 0 ≤ size := by
      simp only [List.mem_cons, List.not_mem_nil, or_false] at sIn
      omega
    have lrs := nl.len
    rw [List.length_map] at lrs
    have lwp := wordsP_len (size := size) (n := n)
    have hn16 : n < 16 := hn
    have aW : At H' pW (.lst (rs.map V.ref)) := ⟨nl.top⟩
    -- the word is added
    have add : ∀ (Hb : Hp) (p : Addr) (Hp' : Hp), Ex H' Hb → New Hb p (.lst (((wordP n).take size.toNat).map V.int)) Hp' → (decide (size = 7) || !((wordP n).drop size.toNat).any fun x => decide (x ≠ 0)) = true →
        NewLs H0 pW (rs ++ [p]) ((wordsP size (n + 1)).map fun c => c.map V.int) (upd Hp' pW (.lst (rs.map V.ref ++ [.ref p]))) := fun Hb p Hp' eb np hc => by
      have := NewLs.app (p := p) (xs := ((wordP n).take size.toNat).map V.int) nl (eb.trans np.ex) (Evl.fresh_back eb np.fr) np.at_
      rw [wordsP_succ, if_pos hc, List.map_append]
      exact this
    by_cases h7 : size = 7
    · leaf_len
      rename_i p2 H2 n2
      rw [← List.map_take] at n2
      refine x_app2 (by rw [List.length_map]; omega) ?_
      leaf_len
      exact ⟨_, _, rs ++ [p2], rfl, add H1 p2 H2 n1.ex n2 (by rw [decide_eq_true h7]; rfl)⟩
    · leaf_len
      rename_i pd Hd nd'
      rw [← List.map_drop] at nd'
      rw [any_ne]
      cases hc : ((wordP n).drop size.toNat).any fun x => decide (x ≠ 0) with
      | true =>
        rw [if_neg (by decide)]
        leaf_len
        refine ⟨_, _, rs, rfl, ?_⟩
        rw [wordsP_succ, if_neg (by rw [hc, decide_eq_false h7]; decide), List.append_nil]
        exact nl.post (n1.ex.trans nd'.ex)
      | false =>
        rw [if_pos (by decide)]
        leaf_len
        rename_i p2 H2 n2
        rw [← List.map_take] at n2
        refine x_app2 (by rw [List.length_map]; omega) ?_
        leaf_len
        exact ⟨_, _, rs ++ [p2], rfl, add Hd p2 H2 (n1.ex.trans nd'.ex) n2 (by rw [hc]; exact Bool.or_true _)⟩
  · rintro σ' H' ⟨y4, y5, rs, rfl, nl⟩
    refine b_asg ?_
    refine sE_mono (Q := fun v HS => ∃ (pS : Addr) (rS : List Addr), v = .ref pS ∧ LL HS pS rS (ordW size) ∧ Ex H HS) (fun v HS ⟨pS, rS, e, lS, eS⟩ => ?_) ?_
    · subst e
      have lr := lS.len
      have s0 : 0 ≤ size ∧ size ≤ 7 := by
        simp only [List.mem_cons, List.not_mem_nil, or_false] at sIn
        omega
      refine x_put ?_
      leaf_len
      refine e_lc1 6 r_best_1 g_best_1 (by decide +kernel) (i_r1 ?_)
      leaf_len
      refine y_r1 (by omega) ?_
      refine lcRN0 (fun _ => true) (fun a => (((List.range m.toNat).filter fun n => decide (((ordW size).getD n []).getD a 0 = 1)).map fun (n : Nat) => (n : Int)).map V.int) rfl (by omega) (fun a ha Hc u => ?_) (fun pB rB HB nB => ?_)
      · refine x_tp (tm0 fun X' s c => ?_)
        refine e_lc1 4 r_best_1_0 g_best_1_0 (by decide +kernel) (i_r1 ?_)
        leaf_len
        refine y_r1 (by omega) ?_
        refine lcR0 (fun n => decide (((ordW size).getD n []).getD a 0 = 1)) (fun n => .int (n : Nat)) rfl (by omega) (fun n hn Hc2 u2 => ?_) (fun pc H2 n2 => ?_)
        · obtain ⟨r, hr, _⟩ := get_lt (as := rS) (i := n) (by omega)
          obtain ⟨w, hw, hrow⟩ := pair_get lS.row hr
          have lw := os.2 w (List.mem_of_getElem? hw)
          have ar : At HS r (.lst (w.map V.int)) := ⟨hrow⟩
          obtain ⟨x, hx, _⟩ := get_lt (as := w) (i := a) (by omega)
          refine x_tp (tn1 fun X2 s2 c2 => ?_)
          leaf_len
          refine y_ix (n := n) (v := .ref r) (by rw [List.getElem?_map, hr]; rfl) rfl ?_
          leaf_len
          refine y_ix (n := a) (v := .int x) (by rw [List.getElem?_map, hx]; rfl) rfl ?_
          leaf_len
          refine x_tst (by rw [List.getD_eq_getElem?_getD (l := ordW size), hw, Option.getD_some, List.getD_eq_getElem?_getD, hx]; rfl) ?_
          intro _ X3 s3 c3
          leaf_len
          exact x_end rfl
        · exact x_endN n2.fr (by rw [List.map_map]; rfl)
      · refine q pB rB HB ?_
        rw [filter_true] at nB
        unfold bestP
        rw [hsz, List.map_map]
        exact nB.pre eS
    · have eH : Ex H H' := n0.ex.trans nl.ex
      refine e_if ?_
      refine t_gt ?_
      leaf_len
      refine iteD (fun h3 => ?_) (fun h3 => ?_)
      · have s3 : size ∈ ([5, 6, 7] : List Int) := by
          simp only [List.mem_cons, List.not_mem_nil, or_false] at sIn ⊢
          omega
        obtain ⟨w1, w2⟩ := ordW_ok size s3
        refine e_sortedLL ?_
        leaf_len
        refine ⟨pW, rs, wordsP size 16, rfl, nl.ll, fun p rs' cs' HS n ll pe so => ?_⟩
        have e := lex_uniq so w1 (pe.trans w2.symm)
        subst e
        exact ⟨p, rs', rfl, ll, eH.trans n.ex⟩
      · have s3 : size = 3 := by
          simp only [List.mem_cons, List.not_mem_nil, or_false] at sIn
          omega
        subst s3
        leaf_len
        rename_i p1 H1 n1 p2 H2 n2 p3 H3 n3
        exact ⟨p3, [p1, p2], rfl, ⟨n3.at_, .cons (n3.ex _ _ (n2.ex _ _ n1.at_)) (.cons (n3.ex _ _ n2.at_) .nil)⟩, eH.trans (n1.ex.trans (n2.ex.trans n3.ex))⟩
end
local macro_rules | `(tactic| leaf_len) => `(tactic| repeat first
  | ((with_reducible refine gE ?_); first | ((with_reducible refine gN ?_); first | refine e_var ?_ | refine e_gv ?_ | refine e_tint ?_ | refine e_tbool ?_ | refine e_tlist ?_ | refine e_ttup ?_ | refine e_tstr ?_ | refine e_varS ?_ | refine e_gvS ?_ | refine e_veS ?_) | ((with_reducible refine gK ?_); first | refine e_int ?_ | refine e_bl ?_ | refine e_non ?_ | refine e_str ?_) | ((with_reducible refine gM ?_); first | refine c_eq ?_ | refine c_ne ?_ | refine c_lt ?_ | refine c_le ?_ | refine c_gt ?_ | refine c_ge ?_ | refine c_in ?_ | refine c_ni ?_ | refine c_is ?_ | refine c_isn ?_ | refine c_lelt ?_ | refine c_lele ?_) | ((with_reducible refine gO ?_); first | refine e_add ?_ | refine e_sub ?_ | refine e_mul ?_ | refine e_mod ?_ | refine e_div ?_ | refine e_pow ?_ | refine e_shr ?_ | refine e_bitand ?_) | ((with_reducible refine gC ?_); first | refine e_len ?_ | refine e_isi ?_ | refine e_isE ?_ | refine e_callX ?_ | refine e_call ?_ | refine e_call0 ?_ | refine e_make ?_ | refine e_make0 ?_ | refine e_all ?_ | refine e_abs ?_ | refine e_sum ?_ | refine e_any ?_ | refine e_min ?_ | refine e_sorted ?_ | refine e_listR ?_ | refine e_list ?_ | refine e_intc ?_) | refine e_append ?_ | refine e_lst ?_ | refine e_sl0 ?_ | refine e_sl1 ?_ | refine e_rev ?_ | refine e_tup ?_ | refine e_sub' ?_ | refine e_and ?_ | refine e_or ?_ | refine e_one ?_ | refine e_not ?_ | refine e_if ?_ | refine e_neg ?_ | refine e_fld ?_ | refine e_extend ?_ | refine e_clear ?_ | refine e_reverse ?_)
  | ((with_reducible refine gB ?_); first | refine b_asg ?_ | refine b_ret ?_ | refine b_if ?_ | refine b_expr ?_ | refine b_nil ?_ | refine b_tup2 ?_ | refine b_asgS ?_ | refine b_raise ?_)
  | ((with_reducible refine gT ?_); first | refine t_not ?_ | refine t_call ?_ | refine t_and ?_ | refine t_or ?_ | refine t_eq ?_ | refine t_ne ?_ | refine t_lt ?_ | refine t_le ?_ | refine t_gt ?_ | refine t_ge ?_ | refine t_in ?_ | refine t_ni ?_ | refine t_is ?_ | refine t_isn ?_ | refine t_lelt ?_ | refine t_lele ?_ | refine t_name ?_ | refine t_sub ?_ | refine t_leltlt ?_ | refine t_fld ?_)
  | ((with_reducible refine gW ?_); first | refine w_or ?_ | refine w_and ?_ | refine w_and1 ?_ | refine w_or1 ?_)
  | ((with_reducible refine gA ?_); first | refine a_cons ?_ | refine a_nil ?_)
  | (with_reducible refine x_asB ?_) | (with_reducible refine x_add ?_) | (with_reducible refine x_sub ?_) | (with_reducible refine x_lt ?_) | (with_reducible refine x_le ?_) | (with_reducible refine x_gt ?_) | (with_reducible refine x_ge ?_) | (with_reducible refine x_eqI ?_) | (with_reducible refine x_neI ?_) | (with_reducible refine x_eqB ?_) | (with_reducible refine x_neB ?_) | (with_reducible refine x_isB ?_) | (with_reducible refine x_isnB ?_) | (with_reducible refine x_isN ?_) | (with_reducible refine y_len ?_) | (with_reducible refine y_sum ?_) | (with_reducible refine y_all ?_) | (with_reducible refine y_any ?_) | (with_reducible refine y_inI ?_) | (with_reducible refine x_isiK ?_) | (with_reducible refine x_abs ?_) | (with_reducible refine x_min ?_) | (with_reducible refine x_intB ?_) | (with_reducible refine x_bitand ?_) | (with_reducible refine x_neg ?_) | (with_reducible refine x_fld ?_) | (with_reducible refine x_isiO ?_) | (with_reducible refine x_isE ?_) | (with_reducible refine x_whole ?_)
  | ((with_reducible refine gI ?_); first | refine iteYd (by assumption) ?_ | refine iteNd (by assumption) ?_ | refine iteYn (by assumption) ?_ | refine iteNn (by assumption) ?_ | refine iteY rfl ?_ | refine iteF' rfl ?_)
  | ((with_reducible refine gMul ?_); first | refine x_mulL (by omega) ?_ | refine x_mulR (by omega) ?_)
  | ((with_reducible refine gMod ?_); first | refine x_mod (by omega) ?_)
  | ((with_reducible refine gDiv ?_); first | refine x_divO (by omega) ?_)
  | ((with_reducible refine gShr ?_); first | refine x_shr (by omega) ?_)
  | ((with_reducible refine gEq ?_); first | refine y_eqD (List Int) ?_ | refine y_eqD (List Bool) ?_ | refine y_eqD (List (List Int)) ?_)
  | ((with_reducible refine gNe ?_); first | refine y_neD (List Int) ?_ | refine y_neD (List Bool) ?_ | refine y_neD (List (List Int)) ?_)
  | ((with_reducible refine gAnd ?_); first | ((with_reducible refine x_lst0 rfl ?_); intro _ _ _))
  | ((with_reducible refine gExi ?_); first | (with_reducible refine x_put ?_) | (with_reducible refine x_p2 ?_) | (with_reducible refine x_p3 ?_) | (with_reducible refine x_t2 ?_) | (with_reducible refine x_app1 ?_) | (refine x_sl0 (by omega) ?_; intro _ _ _) | (refine x_sl1 (by omega) ?_; intro _ _ _)))
local macro_rules | `(tactic| one_sign) => `(tactic| ((first | refine iteYd (by omega) ?_ | refine iteNd (by omega) ?_ | refine iteYn (by omega) ?_ | refine iteNn (by omega) ?_); leaf_len))

section
variable {P : Program} {w : World} {K : PySem.W.Frag} {mg : Str → Option Value} {base : Heap}
theorem k_is_whole (F : Df K mg "is_whole" s_is_whole p_is_whole) (hB : ∀ y ∈ bl, mg y = none) : Kn P w K mg base 1 "is_whole" p_is_whole spWhole := by
  refine okd F d_is_whole hB (fun vs H Q E ⟨v, k, e, _⟩ => by rw [e]; rfl) fun X bd C vs H Q E tk h => ?_
  obtain ⟨v, k, rfl, kc, q⟩ := h
  show sB X _ _ [some v] H
  leaf_len
  refine iteB (fun h => ?_) (fun h => ?_)
  · leaf_len
    rw [h] at q
    exact q
  · rw [h] at q
    exact q
theorem k_asked_many (F : Df K mg "asked_many" s_asked_many p_asked_many) (hB : ∀ y ∈ bl, mg y = none) (kW : Kn P w K mg base 1 "is_whole" p_is_whole spWhole) (gM : Gm mg "MOST" (.int 16)) :
    Kn P w K mg base 2 "asked_many" p_asked_many spMany := by
  refine okd F d_asked_many hB (fun vs H Q E ⟨v, e, _⟩ => by rw [e]; rfl) fun X bd C vs H Q E tk h => ?_
  obtain ⟨m, rfl, h1, h2, q⟩ := h
  have f1 := bd.fk kW (by decide)
  have g1 := bd.gv gM
  show sB X _ _ [some (.int m)] H
  leaf_len
  exact q
theorem k_is_card (F : Df K mg "is_card" s_is_card p_is_card) (hB : ∀ y ∈ bl, mg y = none) (kW : Kn P w K mg base 1 "is_whole" p_is_whole spWhole) :
    Kn P w K mg base 2 "is_card" p_is_card spCard := by
  refine okd F d_is_card hB (fun vs H Q E ⟨a, m, ns, e, _⟩ => by rw [e]; rfl) fun X bd C vs H Q E tk h => ?_
  obtain ⟨a, m, ns, rfl, hA, ok, q⟩ := h
  have f1 := bd.fk kW (by decide)
  have hl := ok.len
  show sB X _ _ [some (.ref a), some (.int m), none, none] H
  leaf_len
  refine e_lc1 2 r_is_card_0 g_is_card_0 (by decide +kernel) (i_list ?_)
  leaf_len
  refine y_src ?_
  refine lcL ns V.int (fun _ => true) (fun _ => .bl true) rfl rfl (by omega) (fun n hn Hc u => ?_) (fun D H' nw => ?_)
  · refine x_tp (tn0 fun X' s c => ?_)
    have := ok.wi n hn
    leaf_len
    one_sign
    exact x_end (by rw [decide_eq_true this.2])
  · rw [filter_true] at nw
    leaf_len
    refine iteF' (by rw [all_const]; rfl) ?_
    leaf_len
    refine e_lc1 3 r_is_card_1 g_is_card_1 (by decide +kernel) (i_r2 ?_)
    leaf_len
    rw [List.length_map]
    refine y_r2 (by omega) ?_
    refine lcR (fun _ => true) (fun _ => .bl true) rfl (by omega) (fun k hk Hc u => ?_) (fun D H' nw => ?_)
    · refine x_tp (tn0 fun X' s c => ?_)
      obtain ⟨x1, h1, _⟩ := get_lt (as := ns) (i := k) (by omega)
      obtain ⟨x2, h2, _⟩ := get_lt (as := ns) (i := k + 1) (by omega)
      have := ok.at h1 h2
      leaf_len
      refine y_ix (n := k) (v := .int x1) (by rw [List.getElem?_map, h1]; rfl) (by omega) ?_
      leaf_len
      refine y_ix (n := k + 1) (v := .int x2) (by rw [List.getElem?_map, h2]; rfl) (by omega) ?_
      leaf_len
      exact x_end (by rw [decide_eq_true this])
    · rw [filter_true] at nw
      leaf_len
      rw [all_const]
      exact q _ ⟨Exs.ex⟩
theorem k_asked_cards (F : Df K mg "asked_cards" s_asked_cards p_asked_cards) (hB : ∀ y ∈ bl, mg y = none) (kM : Kn P w K mg base 2 "asked_many" p_asked_many spMany) (kC : Kn P w K mg base 2 "is_card" p_is_card spCard) (gM : Gm mg "MOST_CARDS" (.int 12)) :
    Kn P w K mg base 3 "asked_cards" p_asked_cards spCards := by
  refine okd F d_asked_cards hB (fun vs H Q E ⟨a, m, rs, cs, e, _⟩ => by rw [e]; rfl) fun X bd C vs H Q E tk h => ?_
  obtain ⟨a, m, rs, cs, rfl, h1, h2, hL, ok, q⟩ := h
  have f1 := bd.fk kM (by decide)
  have f2 := bd.fk kC (by decide)
  have g1 := bd.gv gM
  have hl := ok.len
  have hrs := hL.len
  show sB X _ _ [some (.int m), some (.ref a), none] H
  leaf_len
  refine x_many (by omega) ?_
  leaf_len
  rw [List.length_map]
  one_sign
  refine e_lc1 2 r_asked_cards_0 g_asked_cards_0 (by decide +kernel) (i_list ?_)
  leaf_len
  refine y_src ?_
  refine lcL (rs.zip cs) (fun p => V.ref p.1) (fun _ => true) (fun _ => .bl true) rfl (zip_refs hrs) (by rw [List.length_zip]; omega) (fun n hn Hc u => ?_) (fun D H' nw => ?_)
  · refine x_tp (tn0 fun X' s c => ?_)
    have r := (hL.up u.ex).atZ hn
    leaf_len
    refine ⟨_, _, _, rfl, r, ok.all _ (List.of_mem_zip hn).2, fun H' u' => ?_⟩
    exact x_end rfl
  · rw [filter_true] at nw
    leaf_len
    refine iteF' (by rw [all_const]; rfl) ?_
    leaf_len
    exact q _ ⟨Exs.ex⟩
theorem k_asked_number (F : Df K mg "asked_number" s_asked_number p_asked_number) (hB : ∀ y ∈ bl, mg y = none) (kW : Kn P w K mg base 1 "is_whole" p_is_whole spWhole) :
    Kn P w K mg base 2 "asked_number" p_asked_number spNumber := by
  refine okd F d_asked_number hB (fun vs H Q E ⟨m, n, e, _⟩ => by rw [e]; rfl) fun X bd C vs H Q E tk h => ?_
  obtain ⟨m, n, rfl, h1, h2, q⟩ := h
  have f1 := bd.fk kW (by decide)
  show sB X _ _ [some (.int m), some (.int n)] H
  leaf_len
  exact q
theorem k_marks_of (F : Df K mg "marks_of" s_marks_of p_marks_of) (hB : ∀ y ∈ bl, mg y = none) : Kn P w K mg base 1 "marks_of" p_marks_of spMarksOf := by
  refine okd F d_marks_of hB (fun vs H Q E ⟨a, n, rs, cs, e, _⟩ => by rw [e]; rfl) fun X bd C vs H Q E tk h => ?_
  obtain ⟨a, n, rs, cs, rfl, hL, hl, q⟩ := h
  have ru := bd.ru
  have hrs := hL.len
  show sB X _ _ [some (.ref a), some (.int n), none] H
  leaf_len
  refine e_lc1 2 r_marks_of_0 g_marks_of_0 (by decide +kernel) (i_list ?_)
  leaf_len
  refine y_src ?_
  refine lcL (rs.zip cs) (fun p => V.ref p.1) (fun _ => true) (fun p => .bl (decide (n ∈ p.2))) rfl (zip_refs hrs) (by rw [List.length_zip]; omega) (fun c hn Hc u => ?_) (fun D H' nw => ?_)
  · refine x_tp (tn0 fun X' s c' => ?_)
    have r := (hL.up u.ex).atZ hn
    leaf_len
    exact x_end rfl
  · rw [filter_true, show (fun p : Addr × List Int => V.bl (decide (n ∈ p.2))) = (fun c : List Int => V.bl (decide (n ∈ c))) ∘ Prod.snd from rfl, ← List.map_map, zip_snd hrs] at nw
    refine q D H' ?_
    rw [show (marksP cs n).map V.bl = cs.map fun c => V.bl (decide (n ∈ c)) by unfold marksP; rw [List.map_map]; rfl]
    exact nw
theorem k_marks (F : Df K mg "marks" s_marks p_marks) (hB : ∀ y ∈ bl, mg y = none) (kC : Kn P w K mg base 3 "asked_cards" p_asked_cards spCards) (kN : Kn P w K mg base 2 "asked_number" p_asked_number spNumber) (kM : Kn P w K mg base 1 "marks_of" p_marks_of spMarksOf) :
    Kn P w K mg base 4 "marks" p_marks spMarks := by
  refine okd F d_marks hB (fun vs H Q E ⟨a, m, n, rs, cs, e, _⟩ => by rw [e]; rfl) fun X bd C vs H Q E tk h => ?_
  obtain ⟨a, m, n, rs, cs, rfl, hh, hL, ok, q⟩ := h
  have f1 := bd.fk kC (by decide)
  have f2 := bd.fk kN (by decide)
  have f3 := bd.fk kM (by decide)
  have hl := ok.len
  show sB X _ _ [some (.int m), some (.ref a), some (.int n)] H
  leaf_len
  refine x_cards (by omega) ok fun H1 u1 => ?_
  leaf_len
  refine x_number (by omega) ?_
  leaf_len
  refine x_marksOf (by omega) fun p H2 nw => ?_
  exact q p H2 (nw.pre Exs.ex)
theorem k_unlike (F : Df K mg "unlike" s_unlike p_unlike) (hB : ∀ y ∈ bl, mg y = none) : Kn P w K mg base 1 "unlike" p_unlike spUnlike := by
  refine okd F d_unlike hB (fun vs H Q E ⟨a, b, bs, ds, e, _⟩ => by rw [e]; rfl) fun X bd C vs H Q E tk h => ?_
  obtain ⟨a, b, bs, ds, rfl, hA, hB', hl, q⟩ := h
  have ru := bd.ru
  show sB X _ _ [some (.ref a), some (.ref b), none, none] H
  leaf_len
  refine e_lc2 2 3 r_unlike_0 g_unlike_0 (by decide +kernel) (i_zip ?_)
  leaf_len
  refine y_zip ?_
  refine lcZ bs ds V.bl V.bl (fun p => !decide (p.1 = p.2)) (fun p => V.bl p.1) rfl rfl rfl rfl (by omega) (fun c hn Hc u => ?_) (fun D H' nw => ?_)
  · refine x_tp2 (tn1 fun X' s c' => ?_)
    leaf_len
    refine x_tst rfl ?_
    intro hp X' s' c'
    leaf_len
    exact x_end rfl
  · leaf_len
    rw [List.length_map]
    exact q _ ⟨Exs.ex⟩
theorem k_together (F : Df K mg "together" s_together p_together) (hB : ∀ y ∈ bl, mg y = none) (kC : Kn P w K mg base 3 "asked_cards" p_asked_cards spCards) (gM : Gm mg "MOST_CARDS" (.int 12)) :
    Kn P w K mg base 4 "together" p_together spTogether := by
  refine okd F d_together hB (fun vs H Q E ⟨a, b, m, rs, rs', cs, cs', e, _⟩ => by rw [e]; rfl) fun X bd C vs H Q E tk h => ?_
  obtain ⟨a, b, m, rs, rs', cs, cs', rfl, hh, hL, hL', ok, ok', hl, q⟩ := h
  have f1 := bd.fk kC (by decide)
  have g1 := bd.gv gM
  have h1 := hL.len
  have h2 := hL'.len
  show sB X _ _ [some (.int m), some (.ref a), some (.ref b), none] H
  leaf_len
  refine x_cards (by omega) ok fun H1 u1 => ?_
  leaf_len
  refine x_cards (by omega) ok' fun H2 u2 => ?_
  leaf_len
  rw [List.length_map, List.length_map]
  leaf_len
  one_sign
  refine e_lc1 3 r_together_0 g_together_0 (by decide +kernel) (i_list ?_)
  leaf_len
  refine y_cat (by rw [List.length_map, List.length_map]; omega) fun p H3 nw => ?_
  have l1 : LL H3 a rs cs := inferInstance
  have l2 : LL H3 b rs' cs' := inferInstance
  have rw2 := pair_append l1.row l2.row
  refine y_src ?_
  refine lcLN ((rs ++ rs').zip (cs ++ cs')) (fun p => V.ref p.1) (fun _ => true) (fun p => p.2.map V.int) rfl (by rw [← List.map_append]; exact zip_refs (by simp; omega)) (by simp; omega) (fun c hn Hc u => ?_) (fun D ps H' nw => ?_)
  · refine x_tp (tm0 fun X' s c' => ?_)
    have r : At Hc c.1 (.lst (c.2.map V.int)) := ⟨u.ex _ _ (pair_zip rw2 hn)⟩
    leaf_len
    refine y_list fun p' H5 nw' => ?_
    exact x_endN nw'.fr rfl
  · rw [filter_true, show (fun p : Addr × List Int => p.2.map V.int) = (fun c : List Int => c.map V.int) ∘ Prod.snd from rfl, ← List.map_map, zip_snd (by simp; omega)] at nw
    exact q D ps H' (nw.pre Exs.ex)
theorem k_ordered (F : Df K mg "ordered" s_ordered p_ordered) (hB : ∀ y ∈ bl, mg y = none) (kC : Kn P w K mg base 3 "asked_cards" p_asked_cards spCards) (kW : Kn P w K mg base 1 "is_whole" p_is_whole spWhole) :
    Kn P w K mg base 4 "ordered" p_ordered spOrdered := by
  refine okd F d_ordered hB (fun vs H Q E ⟨a, o, m, rs, cs, os, e, _⟩ => by rw [e]; rfl) fun X bd C vs H Q E tk h => ?_
  obtain ⟨a, o, m, rs, cs, os, rfl, hh, hL, ok, hO, hp, q⟩ := h
  have f1 := bd.fk kC (by decide)
  have f2 := bd.fk kW (by decide)
  have ru := bd.ru
  have h1 := hL.len
  have hl := ok.len
  have ho := hp.length_eq
  rw [List.length_range] at ho
  show sB X _ _ [some (.int m), some (.ref a), some (.ref o), none, none] H
  leaf_len
  refine x_cards (by omega) ok fun H1 u1 => ?_
  leaf_len
  refine e_lc1 3 r_ordered_0 g_ordered_0 (by decide +kernel) (i_list ?_)
  leaf_len
  refine y_src ?_
  refine lcL os (fun k => .int (k : Nat)) (fun _ => true) (fun _ => .bl true) rfl rfl (by omega) (fun n hn Hc u => ?_) (fun D H' nw => ?_)
  · refine x_tp (tn0 fun X' s c => ?_)
    leaf_len
    exact x_end rfl
  rw [filter_true] at nw
  leaf_len
  refine iteF' (by rw [all_const]; rfl) ?_
  leaf_len
  refine y_sorted (by rw [List.length_map]; omega) fun ms p H2 hp2 hs nw2 => ?_
  leaf_len
  rw [List.length_map]
  refine ⟨_, rfl, by omega, by omega, fun p3 H3 nw3 => ?_⟩
  have es : ms = (List.range cs.length).map fun (k : Nat) => (k : Int) := perm_range (hp2.trans (hp.map _)) hs
  refine y_neD (List Int) ?_
  rw [es, show ((rs.length : Int)).toNat = cs.length by omega]
  leaf_len
  refine iteNn rfl ?_
  leaf_len
  refine e_lc1 4 r_ordered_1 g_ordered_1 (by decide +kernel) (i_list ?_)
  leaf_len
  refine y_src ?_
  refine lcLN os (fun k => .int (k : Nat)) (fun _ => true) (fun k => (cs.getD k []).map V.int) rfl rfl (by omega) (fun k hn Hc u => ?_) (fun D ps H' nw => ?_)
  · refine x_tp (tm0 fun X' s c' => ?_)
    have hk : k < cs.length := List.mem_range.mp (hp.mem_iff.mp hn)
    obtain ⟨r, hr, _⟩ := get_lt (as := rs) (i := k) (by omega)
    have l1 : LL Hc a rs cs := inferInstance
    obtain ⟨c, hc, hrow⟩ := pair_get l1.row hr
    have r' : At Hc r (.lst (c.map V.int)) := ⟨hrow⟩
    leaf_len
    refine y_ix (n := k) (v := .ref r) (by rw [List.getElem?_map, hr]; rfl) rfl ?_
    leaf_len
    refine y_list fun p' H5 nw' => ?_
    exact x_endN nw'.fr (by rw [List.getD_eq_getElem?_getD, hc]; rfl)
  · rw [filter_true, show (fun k => (cs.getD k []).map V.int) = (fun c : List Int => c.map V.int) ∘ (fun k : Nat => cs.getD k []) from rfl, ← List.map_map] at nw
    exact q D ps H' (nw.pre Exs.ex)
end

section
variable {P : Program} {w : World} {K : PySem.W.Frag} {mg : Str → Option Value} {base : Heap}
theorem k_near (F : Df K mg "near" s_near p_near) (hB : ∀ y ∈ bl, mg y = none) (kM : Kn P w K mg base 1 "marks_of" p_marks_of spMarksOf) (kU : Kn P w K mg base 1 "unlike" p_unlike spUnlike) : Kn P w K mg base 2 "near" p_near spNear := by
  refine okd F d_near hB (fun vs H Q E ⟨a, s, m, l, rs, cs, sd, e, _⟩ => by rw [e]; rfl) fun X bd C vs H Q E tk h => ?_
  obtain ⟨a, s, m, l, rs, cs, sd, rfl, hL, hs, hh, q⟩ := h
  have f1 := bd.fk kM (by decide)
  have f2 := bd.fk kU (by decide)
  have ru := bd.ru
  show sB X _ _ [some (.int m), some (.ref a), some (.ref s), some (.int l), none] H
  leaf_len
  refine e_lc1 4 r_near_0 g_near_0 (by decide +kernel) (i_r1 ?_)
  leaf_len
  refine y_r1 (by omega) ?_
  refine lcR0 (fun k => decide (unlikeP (marksP cs (k : Int)) sd ≤ l)) (fun k => .int (k : Nat)) rfl (by omega) (fun k hk Hc u => ?_) (fun p H3 n3 => ?_)
  · refine x_tp (tn1 fun X' s c => ?_)
    leaf_len
    refine x_marksOf (by omega) fun p4 H4 n4 => ?_
    leaf_len
    refine x_unlike (by rw [marksP_len]; omega) fun H5 u5 => ?_
    leaf_len
    refine x_tst rfl ?_
    intro _ X' s c
    leaf_len
    exact x_end rfl
  · refine q p H3 ?_
    unfold nearP
    rw [List.map_map]
    exact n3
theorem k_Tells_shows {C : Addr} (cl : Cls K C) (F : Dm K C "shows" "Tells.shows" s_Tells_shows p_Tells_shows) (hB : ∀ y ∈ bl, mg y = none) (kM : Kn P w K mg base 1 "marks_of" p_marks_of spMarksOf) (kU : Kn P w K mg base 1 "unlike" p_unlike spUnlike) : Cm P w K mg base 2 C "shows" spTells := by
  refine okm cl F d_Tells_shows hB (fun vs H Q E ⟨v, a, m, l, rs, cs, e, _⟩ => by rw [e]; rfl) fun X bd C vs H Q E tk h => ?_
  obtain ⟨v, a, m, l, rs, cs, rfl, hL, hh, q⟩ := h
  have f1 := bd.fk kM (by decide)
  have f2 := bd.fk kU (by decide)
  have ru := bd.ru
  have po := bd.po
  show sB X _ _ [some v, some (.int m), some (.ref a), some (.int l), none, none] H
  refine b_forR ?_
  leaf_len
  refine ⟨m, rfl, by omega, by omega, fun i σ' H' => ∃ y4 y5, σ' = [some v, some (.int m), some (.ref a), some (.int l), y4, y5] ∧ Ex H H' ∧ ∀ i' j : Nat, i' < i → i' < j → j < m.toNat → pairP cs l (i' : Int) (j : Int) = false, ⟨_, _, rfl, Ex.refl _, fun i' j h => absurd h (Nat.not_lt_zero _)⟩, ?_, ?_⟩
  · rintro i σ' H' hi ⟨y4, y5, rfl, ex, ih⟩
    refine x_tp ?_
    refine b_forR2 ?_
    leaf_len
    refine ⟨(i : Int) + 1, m, rfl, rfl, by omega, fun k σ' H' => ∃ y5, σ' = [some v, some (.int m), some (.ref a), some (.int l), some (.int (i : Nat)), y5] ∧ Ex H H' ∧ ∀ j : Nat, i < j → j < i + 1 + k → pairP cs l (i : Int) (j : Int) = false, ⟨_, rfl, ex, fun j h1 h2 => by omega⟩, ?_, ?_⟩
    · clear ex
      rintro k σ' H' hk ⟨y5, rfl, ex, ih2⟩
      have u0 : Up H H' := ⟨ex⟩
      refine x_tp ?_
      leaf_len
      refine x_marksOf (by omega) fun p1 H1 n1 => ?_
      leaf_len
      refine x_marksOf (by omega) fun p2 H2 n2 => ?_
      leaf_len
      refine x_unlike (by rw [marksP_len]; omega) fun H3 u3 => ?_
      leaf_len
      have e : (i : Int) + 1 + (k : Int) = ((i + 1 + k : Nat) : Int) := by omega
      rw [e]
      refine iteB (fun h => ?_) (fun h => ?_)
      · leaf_len
        have hn : tellsP cs m l = false := tellsP_no (i := i) (j := i + 1 + k) (by omega) (by omega) h
        rw [hn] at q
        exact q _ ⟨Exs.ex⟩
      · leaf_len
        refine ⟨_, rfl, Exs.ex, fun j h1 h2 => ?_⟩
        by_cases hj : j < i + 1 + k
        · exact ih2 j h1 hj
        · have : j = i + 1 + k := by omega
          rw [this]
          exact h
    · clear ex
      rintro σ' H' ⟨y5, rfl, ex, ih2⟩
      leaf_len
      refine ⟨_, _, rfl, ex, fun i' j h1 h2 h3 => ?_⟩
      by_cases hi' : i' < i
      · exact ih i' j hi' h2 h3
      · have : i' = i := by omega
        subst this
        exact ih2 j h2 (by omega)
  · rintro σ' H' ⟨y4, y5, rfl, ex, ih⟩
    leaf_len
    have hy : tellsP cs m l = true := tellsP_iff.mpr fun i j h1 h2 => ih i j (by omega) h1 h2
    rw [hy] at q
    exact q _ ⟨ex⟩
theorem k_Alike_shows {C : Addr} (cl : Kc0 K C ["one", "other"]) (F : Dm K C "shows" "Alike.shows" s_Alike_shows p_Alike_shows) (hB : ∀ y ∈ bl, mg y = none) (kM : Kn P w K mg base 1 "marks_of" p_marks_of spMarksOf) (kU : Kn P w K mg base 1 "unlike" p_unlike spUnlike) : Cm P w K mg base 2 C "shows" (spAlike C) := by
  refine okm cl.cls F d_Alike_shows hB (fun vs H Q E ⟨x, a, dx, m, l, i, j, rs, cs, e, _⟩ => by rw [e]; rfl) fun X bd _ vs H Q E tk h => ?_
  obtain ⟨x, a, dx, m, l, i, j, rs, cs, rfl, hx, hL, hh, q⟩ := h
  have f1 := bd.fk kM (by decide)
  have f2 := bd.fk kU (by decide)
  have kl := bd.kl cl
  have ru := bd.ru
  show sB X _ _ [some (.ref x), some (.int m), some (.ref a), some (.int l)] H
  have fin : ∀ H1, Up H H1 → ¬ (0 ≤ i ∧ i < j ∧ j < m) → Q (.bl false) H1 := fun H1 u z => by
    have e : alikeP cs m l i j = false := by unfold alikeP; rw [decide_eq_false z]; rfl
    rw [e] at q
    exact q H1 u
  leaf_len
  refine iteD (fun h1 => ?_) (fun h1 => ?_)
  · leaf_len
    refine iteD (fun h2 => ?_) (fun h2 => ?_)
    · leaf_len
      refine iteN (fun h3 => ?_) (fun h3 => ?_)
      · leaf_len
        exact fin _ ⟨Exs.ex⟩ (by omega)
      · leaf_len
        refine x_marksOf (by omega) fun p1 H1 n1 => ?_
        leaf_len
        refine x_marksOf (by omega) fun p2 H2 n2 => ?_
        leaf_len
        refine x_unlike (by rw [marksP_len]; omega) fun H3 u3 => ?_
        leaf_len
        have e : alikeP cs m l i j = decide (unlikeP (marksP cs i) (marksP cs j) ≤ 2 * l) := by unfold alikeP; rw [decide_eq_true ⟨h1, h2, h3⟩]; rfl
        rw [e] at q
        exact q _ ⟨Exs.ex⟩
    · leaf_len
      exact fin _ ⟨Exs.ex⟩ (by omega)
  · leaf_len
    exact fin _ ⟨Exs.ex⟩ (by omega)
theorem b_sto2 {X : Cx} {x C dx : Addr} {F : List Str} {f : Str} {H : Hp} {D : Ends} {σ : St} {rest : List Stmt} {e o : Expr} {p pos : Pos} (k : Kl X C F) (m : f ∈ F) (y : V) (fs : List (Str × V)) (hx : H x = some (.ins C dx fs)) (hl : fs.length < 1000)
    (q : sE X e σ H fun y' H1 => y' = y ∧ H1 = H ∧ sE X o σ H fun z H2 => z = .ref x ∧ H2 = H ∧ sB X rest D σ (upd H x (.ins C dx (putF f y fs))))
    (hs : swapsWith e (some (.Attribute o f p)) pos.line X.env = pure false := by rfl) : sB X (.Assign [.Attribute o f p] e pos :: rest) D σ H := by
  refine b_fld (sE_mono (fun y' H1 ⟨e1, e2, z⟩ => ?_) q) hs
  subst e1 e2
  refine sE_mono (fun z' H2 ⟨e3, e4, z⟩ => ?_) z
  subst e3 e4
  exact ⟨x, C, dx, fs, rfl, hx, k.cls, k.noat f m, hl, z⟩
theorem k_Alike_init {C : Addr} (cl : Kc0 K C ["one", "other"]) (mk : PySem.W.makesIn K C = true) (kp : PySem.W.keepIn K (.ref C) = true) (hm : mg "Alike" = some (.ref C)) (F : Dm K C "__init__" "Alike.__init__" s_Alike_init p_Alike_init) (hB : ∀ y ∈ bl, mg y = none) : MnD P w K mg base 2 "Alike" (spIns C ["one", "other"]) := by
  refine oki hm mk kp F d_Alike_init hB (fun vs H Q E ⟨x, vs', dx, e, h, _⟩ => by rw [e, List.length_cons, h]; rfl) init_ins fun X bd _ vs H Q E tk h => ?_
  obtain ⟨x, vs', dx, rfl, hl, hx, q⟩ := h
  obtain ⟨v1, v2, rfl⟩ : ∃ v1 v2, vs' = [v1, v2] := match vs', hl with | [v1, v2], _ => ⟨v1, v2, rfl⟩
  have kl := bd.kl cl
  show sB X _ _ [some (.ref x), some v1, some v2] H
  refine b_sto2 kl (by simp) v1 [] hx (by decide) (e_var ⟨rfl, rfl, e_var ⟨rfl, rfl, ?_⟩⟩)
  refine b_sto2 kl (by simp) v2 [("one", v1)] upd_same (Nat.le_of_ble_eq_true rfl) (e_var ⟨rfl, rfl, e_var ⟨rfl, rfl, ?_⟩⟩)
  refine b_nil ?_
  refine q _ (fun b o hb h => ?_) upd_same
  rw [upd_ne hb, upd_ne hb]
  exact h
theorem k_Open_init {C : Addr} (cl : Kc0 K C ["one", "other"]) (mk : PySem.W.makesIn K C = true) (kp : PySem.W.keepIn K (.ref C) = true) (hm : mg "Open" = some (.ref C)) (F : Dm K C "__init__" "Open.__init__" s_Open_init p_Open_init) (hB : ∀ y ∈ bl, mg y = none) : MnD P w K mg base 2 "Open" (spIns C ["one", "other"]) := by
  refine oki hm mk kp F d_Open_init hB (fun vs H Q E ⟨x, vs', dx, e, h, _⟩ => by rw [e, List.length_cons, h]; rfl) init_ins fun X bd _ vs H Q E tk h => ?_
  obtain ⟨x, vs', dx, rfl, hl, hx, q⟩ := h
  obtain ⟨v1, v2, rfl⟩ : ∃ v1 v2, vs' = [v1, v2] := match vs', hl with | [v1, v2], _ => ⟨v1, v2, rfl⟩
  have kl := bd.kl cl
  show sB X _ _ [some (.ref x), some v1, some v2] H
  refine b_sto2 kl (by simp) v1 [] hx (by decide) (e_var ⟨rfl, rfl, e_var ⟨rfl, rfl, ?_⟩⟩)
  refine b_sto2 kl (by simp) v2 [("one", v1)] upd_same (Nat.le_of_ble_eq_true rfl) (e_var ⟨rfl, rfl, e_var ⟨rfl, rfl, ?_⟩⟩)
  refine b_nil ?_
  refine q _ (fun b o hb h => ?_) upd_same
  rw [upd_ne hb, upd_ne hb]
  exact h
/-- Thought's __init__ -/
def spInitT (C : Addr) : Sp := fun vs H Q _ => ∃ (x c dx : Addr) (v : V) (ys : List V), vs = [.ref x, v, .ref c] ∧ H c = some (.lst ys) ∧ H x = some (.ins C dx []) ∧ ∀ p H2, H p = none → (∀ b o, b ≠ x → H b = some o → H2 b = some o) → H2 p = some (.lst ys) → H2 x = some (.ins C dx [("number", v), ("cards", .ref p)]) → Q .non H2
theorem initT_ins {C : Addr} : ∀ vs H Q, spMkT C vs H Q E0 → ∀ y dx, H y = none → H dx = none → dx ≠ y → spInitT C (.ref y :: vs) (upd (upd H dx (.own y)) y (.ins C dx [])) (fun v H2 => v = .non ∧ Q (.ref y) H2) E0 := fun vs H Q h y dx h1 h2 h3 => by
  obtain ⟨v, c, ys, rfl, hc, q⟩ := h
  have up : ∀ b o, H b = some o → upd (upd H dx (.own y)) y (.ins C dx []) b = some o := fun b o hb => by rw [upd_ne (ne_of_none hb h1), upd_ne (ne_of_none hb h2)]; exact hb
  refine ⟨y, c, dx, v, ys, rfl, up c _ hc.h, upd_same, fun p H2 hp k e1 e2 => ⟨rfl, ?_⟩⟩
  have py : p ≠ y := fun z => by rw [z, upd_same] at hp; cases hp
  have hp0 : H p = none := by
    cases e : H p with
    | none => rfl
    | some o => rw [up p o e] at hp; cases hp
  refine q y dx p (fun b => if b = y then none else H2 b) H2 ⟨hp0, fun b o hb => ?_, ?_⟩ ⟨?_, fun b o hb => ?_, e2⟩
  · show (if b = y then none else H2 b) = some o
    rw [if_neg (ne_of_none hb h1)]
    exact k b o (ne_of_none hb h1) (up b o hb)
  · show (if p = y then none else H2 p) = _
    rw [if_neg py]
    exact e1
  · show (if y = y then none else H2 y) = none
    rw [if_pos rfl]
  · have hb' : (if b = y then none else H2 b) = some o := hb
    by_cases z : b = y
    · rw [if_pos z] at hb'; cases hb'
    · rw [if_neg z] at hb'; exact hb'
theorem k_Thought_init {C : Addr} (cl : Kc0 K C ["number", "cards"]) (mk : PySem.W.makesIn K C = true) (kp : PySem.W.keepIn K (.ref C) = true) (hm : mg "Thought" = some (.ref C)) (F : Dm K C "__init__" "Thought.__init__" s_Thought_init p_Thought_init) (hB : ∀ y ∈ bl, mg y = none) : MnD P w K mg base 2 "Thought" (spMkT C) := by
  refine oki hm mk kp F d_Thought_init hB (fun vs H Q E ⟨x, c, dx, v, ys, e, _⟩ => by rw [e]; rfl) initT_ins fun X bd _ vs H Q E tk h => ?_
  obtain ⟨x, c, dx, v, ys, rfl, hc, hx, q⟩ := h
  have kl := bd.kl cl
  show sB X _ _ [some (.ref x), some v, some (.ref c)] H
  refine b_sto2 kl (by simp) v [] hx (by decide) (e_var ⟨rfl, rfl, e_var ⟨rfl, rfl, ?_⟩⟩)
  have ncx : c ≠ x := fun z => by rw [z, hx] at hc; cases hc
  have ac : At (upd H x (.ins C dx (putF "number" v []))) c (.lst ys) := ⟨by rw [upd_ne ncx]; exact hc⟩
  refine b_fld ?_
  leaf_len
  refine y_list fun p H1 n1 => ?_
  leaf_len
  have hx1 := n1.ex _ _ (upd_same (H := H) (a := x) (o := .ins C dx (putF "number" v [])))
  refine ⟨x, C, dx, _, rfl, hx1, kl.cls, kl.noat "cards" (by simp), Nat.le_of_ble_eq_true rfl, ?_⟩
  leaf_len
  have npx : p ≠ x := fun z => by have := n1.fr; rw [z, upd_same] at this; cases this
  have hp : H p = none := by have := n1.fr; rw [upd_ne npx] at this; exact this
  refine q p _ hp (fun b o hb h => ?_) ?_ upd_same
  · rw [upd_ne hb]
    exact n1.ex _ _ (by rw [upd_ne hb]; exact h)
  · rw [upd_ne npx]
    exact n1.at_
theorem wrong_get {cs : List (List Int)} {n : Int} {sd : List Bool} {k : Nat} (hk : k < cs.length) (hs : sd.length = cs.length) : ∃ b d : Bool, (marksP cs n)[k]? = some b ∧ sd[k]? = some d ∧ (marksP cs n).getD k false = b ∧ sd.getD k false = d := by
  obtain ⟨b, hb, _⟩ := get_lt (as := marksP cs n) (i := k) (by rw [marksP_len]; exact hk)
  obtain ⟨d, hd, _⟩ := get_lt (as := sd) (i := k) (by omega)
  exact ⟨b, d, hb, hd, by rw [List.getD_eq_getElem?_getD, hb]; rfl, by rw [List.getD_eq_getElem?_getD, hd]; rfl⟩
theorem k_Thought_shows {C : Addr} (cl : Kc0 K C ["number", "cards"]) (F : Dm K C "shows" "Thought.shows" s_Thought_shows p_Thought_shows) (hB : ∀ y ∈ bl, mg y = none) (kM : Kn P w K mg base 1 "marks_of" p_marks_of spMarksOf) (kN : Kn P w K mg base 2 "near" p_near spNear) : Cm P w K mg base 3 C "shows" (spThought C) := by
  refine okm cl.cls F d_Thought_shows hB (fun vs H Q E ⟨x, a, s, c, dx, m, l, n, rs, cs, sd, ws, e, _⟩ => by rw [e]; rfl) fun X bd _ vs H Q E tk h => ?_
  obtain ⟨x, a, s, c, dx, m, l, n, rs, cs, sd, ws, rfl, hx, hc, hL, hs, hh, q⟩ := h
  have f1 := bd.fk kM (by decide)
  have f2 := bd.fk kN (by decide)
  have kl := bd.kl cl
  have ru := bd.ru
  have hrs := hL.len
  show sB X _ _ [some (.ref x), some (.int m), some (.ref a), some (.ref s), some (.int l), none, none] H
  leaf_len
  refine x_near (by omega) fun p1 H1 n1 => ?_
  leaf_len
  refine iteN (fun h => ?_) (fun h => ?_)
  · leaf_len
    have e : thoughtP cs m sd l n ws = false := by unfold thoughtP; rw [decide_eq_false h]; rfl
    rw [e] at q
    exact q _ ⟨Exs.ex⟩
  · leaf_len
    refine x_marksOf (by omega) fun p2 H2 n2 => ?_
    leaf_len
    refine e_lc1 6 r_Thought_shows_0 g_Thought_shows_0 (by decide +kernel) (i_r1 ?_)
    leaf_len
    rw [List.length_map]
    refine y_r1 (by omega) ?_
    refine lcR0 (fun k => !decide ((marksP cs n).getD k false = sd.getD k false)) (fun k => .int (k : Nat)) rfl (by omega) (fun k hk Hc u => ?_) (fun p3 H3 n3 => ?_)
    · obtain ⟨b, d, e1, e2, e3, e4⟩ := wrong_get (cs := cs) (n := n) (sd := sd) (k := k) (by omega) hh.2.2.2
      refine x_tp (tn1 fun X' s c => ?_)
      leaf_len
      refine y_ix (n := k) (v := .bl b) (by rw [List.getElem?_map, e1]; rfl) rfl ?_
      leaf_len
      refine y_ix (n := k) (v := .bl d) (by rw [List.getElem?_map, e2]; rfl) rfl ?_
      leaf_len
      refine x_tst (by rw [e3, e4]) ?_
      intro _ X' s c
      leaf_len
      exact x_end rfl
    · rw [show ((rs.length : Int)).toNat = cs.length by omega] at n3
      leaf_len
      have e : thoughtP cs m sd l n ws = decide (ws = wrongP cs n sd) := by unfold thoughtP; rw [decide_eq_true h]; rfl
      rw [e] at q
      exact q _ ⟨Exs.ex⟩
theorem k_Open_shows {C : Addr} (cl : Kc0 K C ["one", "other"]) (F : Dm K C "shows" "Open.shows" s_Open_shows p_Open_shows) (hB : ∀ y ∈ bl, mg y = none) (kN : Kn P w K mg base 2 "near" p_near spNear) : Cm P w K mg base 3 C "shows" (spOpen C) := by
  refine okm cl.cls F d_Open_shows hB (fun vs H Q E ⟨x, a, s, dx, m, l, i, j, rs, cs, sd, e, _⟩ => by rw [e]; rfl) fun X bd _ vs H Q E tk h => ?_
  obtain ⟨x, a, s, dx, m, l, i, j, rs, cs, sd, rfl, hx, hL, hs, hh, q⟩ := h
  have f2 := bd.fk kN (by decide)
  have kl := bd.kl cl
  have ru := bd.ru
  show sB X _ _ [some (.ref x), some (.int m), some (.ref a), some (.ref s), some (.int l), none] H
  leaf_len
  refine x_near (by omega) fun p1 H1 n1 => ?_
  leaf_len
  unfold openP at q
  refine iteD (fun h => ?_) (fun h => ?_)
  · leaf_len
    rw [decide_eq_true h, Bool.true_and] at q
    refine iteD (fun h2 => ?_) (fun h2 => ?_)
    · leaf_len
      rw [decide_eq_true h2, Bool.true_and] at q
      exact q _ ⟨Exs.ex⟩
    · rw [decide_eq_false h2, Bool.false_and] at q
      exact q _ ⟨Exs.ex⟩
  · rw [decide_eq_false h, Bool.false_and] at q
    exact q _ ⟨Exs.ex⟩
theorem k_Nobody_shows {C : Addr} (cl : Cls K C) (F : Dm K C "shows" "Nobody.shows" s_Nobody_shows p_Nobody_shows) (hB : ∀ y ∈ bl, mg y = none) (kN : Kn P w K mg base 2 "near" p_near spNear) : Cm P w K mg base 3 C "shows" spNobody := by
  refine okm cl F d_Nobody_shows hB (fun vs H Q E ⟨v, a, s, m, l, rs, cs, sd, e, _⟩ => by rw [e]; rfl) fun X bd _ vs H Q E tk h => ?_
  obtain ⟨v, a, s, m, l, rs, cs, sd, rfl, hL, hs, hh, q⟩ := h
  have f2 := bd.fk kN (by decide)
  have ru := bd.ru
  show sB X _ _ [some v, some (.int m), some (.ref a), some (.ref s), some (.int l)] H
  leaf_len
  refine x_near (by omega) fun p1 H1 n1 => ?_
  leaf_len
  exact q _ ⟨Exs.ex⟩
end

section
variable {P : Program} {w : World} {K : PySem.W.Frag} {mg : Str → Option Value} {base : Heap} {cT cL cH cO cN : Addr}
theorem k_asked_lies (F : Df K mg "asked_lies" s_asked_lies p_asked_lies) (hB : ∀ y ∈ bl, mg y = none) (kW : Kn P w K mg base 1 "is_whole" p_is_whole spWhole) : Kn P w K mg base 2 "asked_lies" p_asked_lies spLies := by
  refine okd F d_asked_lies hB (fun vs H Q E ⟨l, e, _⟩ => by rw [e]; rfl) fun X bd C vs H Q E tk h => ?_
  obtain ⟨l, rfl, h1, q⟩ := h
  have f1 := bd.fk kW (by decide)
  show sB X _ _ [some (.int l)] H
  leaf_len
  one_sign
  exact q
theorem k_judged (F : Df K mg "judged" s_judged p_judged) (hB : ∀ y ∈ bl, mg y = none) (kC : Kn P w K mg base 3 "asked_cards" p_asked_cards spCards) (kL : Kn P w K mg base 2 "asked_lies" p_asked_lies spLies) (kM : Kn P w K mg base 1 "marks_of" p_marks_of spMarksOf) (kU : Kn P w K mg base 1 "unlike" p_unlike spUnlike)
    (mT : MnD P w K mg base 0 "Tells" (spIns cT [])) (mL : MnD P w K mg base 2 "Alike" (spIns cL ["one", "other"])) : Kn P w K mg base 4 "judged" p_judged (spJudged cT cL) := by
  refine okd F d_judged hB (fun vs H Q E ⟨a, m, l, rs, cs, e, _⟩ => by rw [e]; rfl) fun X bd C vs H Q E tk h => ?_
  obtain ⟨a, m, l, rs, cs, rfl, hh, hL, ok, q⟩ := h
  have f1 := bd.fk kC (by decide)
  have f2 := bd.fk kL (by decide)
  have f3 := bd.fk kM (by decide)
  have f4 := bd.fk kU (by decide)
  have n1 := bd.mn mT (by decide)
  have n2 := bd.mn mL (by decide)
  have ru := bd.ru
  have po := bd.po
  have hl := ok.len
  show sB X _ _ [some (.int m), some (.ref a), some (.int l), none, none] H
  leaf_len
  refine x_cards (by omega) ok fun H0 u0 => ?_
  leaf_len
  refine x_lies (by omega) ?_
  leaf_len
  refine b_forR ?_
  leaf_len
  refine ⟨m, rfl, by omega, by omega, fun i σ' H' => ∃ y4 y5, σ' = [some (.int m), some (.ref a), some (.int l), y4, y5] ∧ Ex H0 H' ∧ ∀ i' j : Nat, i' < i → i' < j → j < m.toNat → pairP cs l (i' : Int) (j : Int) = false, ⟨_, _, rfl, Ex.refl _, fun i' j h => absurd h (Nat.not_lt_zero _)⟩, ?_, ?_⟩
  · rintro i σ' H' hi ⟨y4, y5, rfl, ex, ih⟩
    refine x_tp ?_
    refine b_forR2 ?_
    leaf_len
    refine ⟨(i : Int) + 1, m, rfl, rfl, by omega, fun k σ' H' => ∃ y5, σ' = [some (.int m), some (.ref a), some (.int l), some (.int (i : Nat)), y5] ∧ Ex H0 H' ∧ ∀ j : Nat, i < j → j < i + 1 + k → pairP cs l (i : Int) (j : Int) = false, ⟨_, rfl, ex, fun j h1 h2 => by omega⟩, ?_, ?_⟩
    · clear ex
      rintro k σ' H' hk ⟨y5, rfl, ex, ih2⟩
      have u0 : Up H0 H' := ⟨ex⟩
      have e : (i : Int) + 1 + (k : Int) = ((i + 1 + k : Nat) : Int) := by omega
      rw [e]
      refine x_tp ?_
      leaf_len
      refine x_marksOf (by omega) fun p1 H1 n1 => ?_
      leaf_len
      refine x_marksOf (by omega) fun p2 H2 n2 => ?_
      leaf_len
      refine x_unlike (by rw [marksP_len]; omega) fun H3 u3 => ?_
      leaf_len
      refine iteB (fun h => ?_) (fun h => ?_)
      · leaf_len
        refine ⟨rfl, fun x dx H4 n4 => ?_⟩
        have hn : tellsP cs m l = false := tellsP_no (i := i) (j := i + 1 + k) (by omega) (by omega) h
        have ha : alikeP cs m l (i : Int) ((i + 1 + k : Nat) : Int) = true := by
          unfold alikeP
          rw [decide_eq_true (by omega), Bool.true_and]
          exact h
        exact q.alike hn _ _ x dx H3 H4 ha ⟨Exs.ex⟩ n4
      · leaf_len
        refine ⟨_, rfl, Exs.ex, fun j h1 h2 => ?_⟩
        by_cases hj : j < i + 1 + k
        · exact ih2 j h1 hj
        · have : j = i + 1 + k := by omega
          rw [this]
          exact h
    · clear ex
      rintro σ' H' ⟨y5, rfl, ex, ih2⟩
      leaf_len
      refine ⟨_, _, rfl, ex, fun i' j h1 h2 h3 => ?_⟩
      by_cases hi' : i' < i
      · exact ih i' j hi' h2 h3
      · have : i' = i := by omega
        subst this
        exact ih2 j h2 (by omega)
  · rintro σ' H' ⟨y4, y5, rfl, ex, ih⟩
    have u1 : Up H0 H' := ⟨ex⟩
    leaf_len
    refine ⟨rfl, fun x dx H4 n4 => ?_⟩
    have hy : tellsP cs m l = true := tellsP_iff.mpr fun i j h1 h2 => ih i j (by omega) h1 h2
    exact q.tells hy x dx H' H4 ⟨Exs.ex⟩ n4

theorem k_told (F : Df K mg "told" s_told p_told) (hB : ∀ y ∈ bl, mg y = none) (kC : Kn P w K mg base 3 "asked_cards" p_asked_cards spCards) (kL : Kn P w K mg base 2 "asked_lies" p_asked_lies spLies) (kM : Kn P w K mg base 1 "marks_of" p_marks_of spMarksOf) (kN : Kn P w K mg base 2 "near" p_near spNear)
    (mH : MnD P w K mg base 2 "Thought" (spMkT cH)) (mO : MnD P w K mg base 2 "Open" (spIns cO ["one", "other"])) (mN : MnD P w K mg base 0 "Nobody" (spIns cN [])) : Kn P w K mg base 4 "told" p_told (spTold cH cO cN) := by
  refine okd F d_told hB (fun vs H Q E ⟨a, s, m, l, rs, cs, sd, e, _⟩ => by rw [e]; rfl) fun X bd C vs H Q E tk h => ?_
  obtain ⟨a, s, m, l, rs, cs, sd, rfl, hh, hL, hs, ok, q⟩ := h
  have f1 := bd.fk kC (by decide)
  have f2 := bd.fk kL (by decide)
  have f3 := bd.fk kM (by decide)
  have f4 := bd.fk kN (by decide)
  have n1 := bd.mn mH (by decide)
  have n2 := bd.mn mO (by decide)
  have n3 := bd.mn mN (by decide)
  have ru := bd.ru
  have hl := ok.len
  have hrs := hL.len
  show sB X _ _ [some (.int m), some (.ref a), some (.ref s), some (.int l), none, none, none, none] H
  leaf_len
  refine x_cards (by omega) ok fun H0 u0 => ?_
  leaf_len
  rw [List.length_map, List.length_map]
  one_sign
  refine e_lc1 6 r_told_0 g_told_0 (by decide +kernel) (i_list ?_)
  leaf_len
  refine y_src ?_
  refine lcL sd V.bl (fun _ => true) (fun _ => .bl true) rfl rfl (by omega) (fun x hx Hc u => ?_) (fun D1 H1 nw1 => ?_)
  · refine x_tp (tn0 fun X' s c => ?_)
    leaf_len
    exact x_end rfl
  rw [filter_true] at nw1
  leaf_len
  refine iteF' (by rw [all_const]; rfl) ?_
  leaf_len
  refine x_lies (by omega) ?_
  leaf_len
  refine x_near (by omega) fun p2 H2 nw2 => ?_
  leaf_len
  refine iteD (fun h => ?_) (fun h => ?_)
  · leaf_len
    refine ⟨rfl, fun x dx H4 n4 => ?_⟩
    exact q.nobody h x dx _ H4 ⟨Exs.ex⟩ n4
  · leaf_len
    rw [List.length_map]
    cases hn : nearP cs m sd l with
    | nil => exact absurd hn h
    | cons n r =>
      rw [hn] at nw2
      cases r with
      | nil =>
        refine iteNd (by show ¬ (1 : Int) < 1; decide) ?_
        leaf_len
        refine y_ix (n := 0) (v := .int n) rfl rfl ?_
        leaf_len
        refine x_marksOf (by omega) fun p3 H3 nw3 => ?_
        leaf_len
        refine y_ix (n := 0) (v := .int n) rfl rfl ?_
        leaf_len
        refine e_lc1 7 r_told_1 g_told_1 (by decide +kernel) (i_r1 ?_)
        leaf_len
        rw [List.length_map]
        refine y_r1 (by omega) ?_
        refine lcR0 (fun k => !decide ((marksP cs n).getD k false = sd.getD k false)) (fun k => .int (k : Nat)) rfl (by omega) (fun k hk Hc u => ?_) (fun p4 H4 nw4 => ?_)
        · obtain ⟨b, d, e1, e2, e3, e4⟩ := wrong_get (cs := cs) (n := n) (sd := sd) (k := k) (by omega) hh.2.2.2
          refine x_tp (tn1 fun X' s c => ?_)
          leaf_len
          refine y_ix (n := k) (v := .bl b) (by rw [List.getElem?_map, e1]; rfl) rfl ?_
          leaf_len
          refine y_ix (n := k) (v := .bl d) (by rw [List.getElem?_map, e2]; rfl) rfl ?_
          leaf_len
          refine x_tst (by rw [e3, e4]) ?_
          intro _ X' s c
          leaf_len
          exact x_end rfl
        have n4' : New H3 p4 (.lst ((wrongP cs n sd).map V.int)) H4 := by
          unfold wrongP
          rw [List.map_map]
          rw [show ((rs.length : Int)).toNat = cs.length by omega] at nw4
          exact nw4
        leaf_len
        refine x_mkT fun x dx p5 H5 H6 nw5 nw6 => ?_
        exact q.thought n hn x dx p5 H4 H5 H6 ⟨Exs.ex⟩ nw5 nw6
      | cons n2 r =>
        refine iteYd (by simp only [List.length_cons]; omega) ?_
        leaf_len
        refine y_ix (n := 0) (v := .int n) rfl rfl ?_
        leaf_len
        refine y_ix (n := 1) (v := .int n2) rfl rfl ?_
        leaf_len
        refine ⟨rfl, fun x dx H4 n4 => ?_⟩
        exact q.open_ n n2 r hn x dx _ H4 ⟨Exs.ex⟩ n4
end
local macro_rules | `(tactic| leaf_len) => `(tactic| repeat first
  | ((with_reducible refine gE ?_); first | ((with_reducible refine gN ?_); first | refine e_var ?_ | refine e_gv ?_ | refine e_tint ?_ | refine e_tbool ?_ | refine e_tlist ?_ | refine e_ttup ?_ | refine e_tstr ?_ | refine e_varS ?_ | refine e_gvS ?_ | refine e_veS ?_) | ((with_reducible refine gK ?_); first | refine e_int ?_ | refine e_bl ?_ | refine e_non ?_ | refine e_str ?_) | ((with_reducible refine gM ?_); first | refine c_eq ?_ | refine c_ne ?_ | refine c_lt ?_ | refine c_le ?_ | refine c_gt ?_ | refine c_ge ?_ | refine c_in ?_ | refine c_ni ?_ | refine c_is ?_ | refine c_isn ?_ | refine c_lelt ?_ | refine c_lele ?_) | ((with_reducible refine gO ?_); first | refine e_add ?_ | refine e_sub ?_ | refine e_mul ?_ | refine e_mod ?_ | refine e_div ?_ | refine e_pow ?_ | refine e_shr ?_ | refine e_bitand ?_) | ((with_reducible refine gC ?_); first | refine e_len ?_ | refine e_isi ?_ | refine e_isE ?_ | refine e_callX ?_ | refine e_call ?_ | refine e_call0 ?_ | refine e_make ?_ | refine e_make0 ?_ | refine e_all ?_ | refine e_abs ?_ | refine e_sum ?_ | refine e_any ?_ | refine e_min ?_ | refine e_sorted ?_ | refine e_listR ?_ | refine e_listR2 ?_ | refine e_list ?_ | refine e_intc ?_) | refine e_append ?_ | refine e_lst ?_ | (refine e_dct ?_; intro _ _ _) | (refine e_lamT ?_; intro _ _ _ _ _) | refine e_sl0 ?_ | refine e_sl1 ?_ | refine e_rev ?_ | refine e_tup ?_ | refine e_sub' ?_ | refine e_and ?_ | refine e_or ?_ | refine e_one ?_ | refine e_not ?_ | refine e_if ?_ | refine e_neg ?_ | refine e_fld ?_ | refine e_extend ?_ | refine e_clear ?_ | refine e_reverse ?_)
  | ((with_reducible refine gB ?_); first | refine b_asg ?_ | refine b_ret ?_ | refine b_if ?_ | refine b_expr ?_ | refine b_nil ?_ | refine b_tup2 ?_ | refine b_asgS ?_ | refine b_raise ?_)
  | ((with_reducible refine gT ?_); first | refine t_not ?_ | refine t_call ?_ | refine t_and ?_ | refine t_or ?_ | refine t_eq ?_ | refine t_ne ?_ | refine t_lt ?_ | refine t_le ?_ | refine t_gt ?_ | refine t_ge ?_ | refine t_in ?_ | refine t_ni ?_ | refine t_is ?_ | refine t_isn ?_ | refine t_lelt ?_ | refine t_lele ?_ | refine t_name ?_ | refine t_sub ?_ | refine t_leltlt ?_ | refine t_fld ?_)
  | ((with_reducible refine gW ?_); first | refine w_or ?_ | refine w_and ?_ | refine w_and1 ?_ | refine w_or1 ?_)
  | ((with_reducible refine gA ?_); first | refine a_cons ?_ | refine a_nil ?_)
  | (with_reducible refine x_asB ?_) | (with_reducible refine x_add ?_) | (with_reducible refine x_sub ?_) | (with_reducible refine x_lt ?_) | (with_reducible refine x_le ?_) | (with_reducible refine x_gt ?_) | (with_reducible refine x_ge ?_) | (with_reducible refine x_eqI ?_) | (with_reducible refine x_neI ?_) | (with_reducible refine x_eqB ?_) | (with_reducible refine x_neB ?_) | (with_reducible refine x_isB ?_) | (with_reducible refine x_isnB ?_) | (with_reducible refine x_isN ?_) | (with_reducible refine y_len ?_) | (with_reducible refine y_sum ?_) | (with_reducible refine y_all ?_) | (with_reducible refine y_any ?_) | (with_reducible refine y_inI ?_) | (with_reducible refine x_isiK ?_) | (with_reducible refine x_abs ?_) | (with_reducible refine x_min ?_) | (with_reducible refine x_intB ?_) | (with_reducible refine x_bitand ?_) | (with_reducible refine x_neg ?_) | (with_reducible refine x_fld ?_) | (with_reducible refine x_isiO ?_) | (with_reducible refine x_isE ?_) | (with_reducible refine x_whole ?_)
  | ((with_reducible refine gI ?_); first | refine iteYd (by assumption) ?_ | refine iteNd (by assumption) ?_ | refine iteYn (by assumption) ?_ | refine iteNn (by assumption) ?_ | refine iteY rfl ?_ | refine iteF' rfl ?_)
  | ((with_reducible refine gMul ?_); first | refine x_mulL (by omega) ?_ | refine x_mulR (by omega) ?_)
  | ((with_reducible refine gMod ?_); first | refine x_mod (by omega) ?_)
  | ((with_reducible refine gDiv ?_); first | refine x_divO (by omega) ?_)
  | ((with_reducible refine gShr ?_); first | refine x_shr (by omega) ?_)
  | ((with_reducible refine gEq ?_); first | refine y_eqD (List Int) ?_ | refine y_eqD (List Bool) ?_ | refine y_eqD (List (List Int)) ?_)
  | ((with_reducible refine gNe ?_); first | refine y_neD (List Int) ?_ | refine y_neD (Int × List Int) ?_ | refine y_neD (Int × Int) ?_ | refine y_neD (List Bool) ?_ | refine y_neD (List (List Int)) ?_)
  | ((with_reducible refine gAnd ?_); first | ((with_reducible refine x_lst0 rfl ?_); intro _ _ _))
  | ((with_reducible refine gExi ?_); first | (with_reducible refine x_put ?_) | (with_reducible refine x_p2 ?_) | (with_reducible refine x_p3 ?_) | (with_reducible refine x_t2 ?_) | (with_reducible refine x_app1 ?_) | (refine x_sl0 (by omega) ?_; intro _ _ _) | (refine x_sl1 (by omega) ?_; intro _ _ _)))
local macro_rules | `(tactic| one_sign) => `(tactic| ((first | refine iteYd (by omega) ?_ | refine iteNd (by omega) ?_ | refine iteYn (by omega) ?_ | refine iteNn (by omega) ?_); leaf_len))
/-! ### k06: what is refused -/
inductive NotI (p : Int → Prop) (H : Hp) (v : V) : Prop where
  | kd {k : Kd} (h : KdV H v k) (n : (isI k && !isB k) = false)
  | num {i : Int} (e : v = .int i) (h : ¬ p i)
theorem NotI.up {p : Int → Prop} {H H' : Hp} {v : V} (e : Ex H H') (h : NotI p H v) : NotI p H' v := by
  cases h with
  | kd h n => exact .kd (h.up e) n
  | num e h => exact .num e h
theorem NotI.strip {p : Int → Prop} {H : Hp} {v : V} (h : NotI p H v) : NotI p (strip H) v := by
  cases h with
  | kd h n => exact .kd h.strip n
  | num e h => exact .num e h
theorem x_wholeN {H : Hp} {v : V} {k : Kd} {Q : VK} {E : XK} (h : KdV H v k) (n : (isI k && !isB k) = false) (q : Q (.bl false) H) : spWhole [v] H Q E := ⟨v, k, rfl, ⟨h⟩, by rw [n]; exact q⟩
abbrev pMany (i : Int) : Prop := 1 ≤ i ∧ i ≤ 16
abbrev pNum (m i : Int) : Prop := 0 ≤ i ∧ i < m
abbrev pLies (i : Int) : Prop := 0 ≤ i
abbrev pOne (i : Int) : Prop := 1 ≤ i
abbrev pTwo (i : Int) : Prop := i = 0 ∨ i = 1
abbrev pBase (i : Int) : Prop := 2 ≤ i ∧ i ≤ 16
def spManyX (cM : Addr) : Sp := fun vs H Q E => spMany vs H Q E ∨ ∃ v, vs = [v] ∧ NotI pMany H v ∧ E (.ref cM) none H
def spNumX (cN : Addr) : Sp := fun vs H Q E => spNumber vs H Q E ∨ ∃ v m, vs = [.int m, v] ∧ NotI (pNum m) H v ∧ E (.ref cN) none H
def spLiesX (cL : Addr) : Sp := fun vs H Q E => ∃ v, vs = [v] ∧ NotI pLies H v ∧ E (.ref cL) none H
/-- whether a thing is a whole number from 0 on, below m -/
inductive InV (m : Int) (H : Hp) (v : V) : Bool → Prop where
  | kd {k : Kd} (h : KdV H v k) (n : (isI k && !isB k) = false) : InV m H v false
  | num {i : Int} (e : v = .int i) : InV m H v (decide (0 ≤ i) && decide (i < m))
theorem InV.up {m : Int} {H H' : Hp} {v : V} {b : Bool} (e : Ex H H') (h : InV m H v b) : InV m H' v b := by
  cases h with
  | kd h n => exact .kd (h.up e) n
  | num e => exact .num e
def upB (ns : List Int) : Bool := ((List.range (ns.length - 1)).map fun k => decide (ns.getD k 0 < ns.getD (k + 1) 0)).all id
/-- whether a thing is a card -/
inductive CardV (m : Int) (H : Hp) (v : V) : Bool → Prop where
  | kd {k : Kd} (h : KdV H v k) (n : k ≠ .lst) : CardV m H v false
  | row {a : Addr} {zs : List (V × Bool)} (e : v = .ref a) (h : H a = some (.lst (zs.map Prod.fst))) (l : zs.length ≤ 100) (i : ∀ z ∈ zs, InV m H z.1 z.2) (f : (zs.map Prod.snd).all id = false) : CardV m H v false
  | num {a : Addr} {ns : List Int} (e : v = .ref a) (h : H a = some (.lst (ns.map V.int))) (l : ns.length ≤ 100) (i : ∀ n ∈ ns, 0 ≤ n ∧ n < m) : CardV m H v (upB ns)
theorem CardV.up {m : Int} {H H' : Hp} {v : V} {b : Bool} (e : Ex H H') (h : CardV m H v b) : CardV m H' v b := by
  cases h with
  | kd h n => exact .kd (h.up e) n
  | row e1 h l i f => exact .row e1 (e _ _ h) l (fun z hz => (i z hz).up e) f
  | num e1 h l i => exact .num e1 (e _ _ h) l i
theorem CardOk.upB {m : Int} {ns : List Int} (h : CardOk m ns) : upB ns = true := by
  unfold Z.upB
  rw [List.all_eq_true]
  intro x hx
  obtain ⟨k, hk, rfl⟩ := List.mem_map.mp hx
  have hk := List.mem_range.mp hk
  have h1 : k < ns.length := by omega
  have h2 : k + 1 < ns.length := by omega
  rw [List.getD_eq_getElem?_getD, List.getD_eq_getElem?_getD, List.getElem?_eq_getElem h1, List.getElem?_eq_getElem h2]
  exact decide_eq_true (h.at (List.getElem?_eq_getElem h1) (List.getElem?_eq_getElem h2))
def spCardV : Sp := fun vs H Q _ => ∃ v m b, vs = [v, .int m] ∧ CardV m H v b ∧ ∀ H', Up H H' → Q (.bl b) H'
/-- no cards -/
inductive BadC (m : Int) (H : Hp) (v : V) : Prop where
  | kd {k : Kd} (h : KdV H v k) (n : k ≠ .lst)
  | many {a : Addr} {xs : List V} (e : v = .ref a) (h : H a = some (.lst xs)) (l : 12 < xs.length)
  | row {a : Addr} {zs : List (V × Bool)} (e : v = .ref a) (h : H a = some (.lst (zs.map Prod.fst))) (l : zs.length ≤ 12) (i : ∀ z ∈ zs, CardV m H z.1 z.2) (f : (zs.map Prod.snd).all id = false)
theorem BadC.up {m : Int} {H H' : Hp} {v : V} (e : Ex H H') (h : BadC m H v) : BadC m H' v := by
  cases h with
  | kd h n => exact .kd (h.up e) n
  | many e1 h l => exact .many e1 (e _ _ h) l
  | row e1 h l i f => exact .row e1 (e _ _ h) l (fun z hz => (i z hz).up e) f
/-- many, cards: the error's class -/
inductive CdE (cM cC : Addr) (H : Hp) (vm vc : V) : Addr → Prop where
  | many (h : NotI pMany H vm) : CdE cM cC H vm vc cM
  | cards {m : Int} (e : vm = .int m) (h : pMany m) (b : BadC m H vc) : CdE cM cC H vm vc cC
theorem CdE.up {cM cC C : Addr} {H H' : Hp} {vm vc : V} (e : Ex H H') (h : CdE cM cC H vm vc C) : CdE cM cC H' vm vc C := by
  cases h with
  | many h => exact .many (h.up e)
  | cards e1 h b => exact .cards e1 h (b.up e)
def spCardsX (cM cC : Addr) : Sp := fun vs H Q E => spCards vs H Q E ∨ ∃ vm vc C, vs = [vm, vc] ∧ CdE cM cC H vm vc C ∧ ∀ H', Up H H' → E (.ref C) none H'
section
variable {H : Hp} {Q : VK} {E : XK} {a b o : Addr} {rs rs' : List Addr} {cs cs' : List (List Int)} {m n i j : Int} {xs ys : List V} {v vm vc : V} {cM cC cN cL C : Addr}
theorem x_manyX (h : 1 ≤ m ∧ m ≤ 16) (q : Q .non H) : spManyX cM [.int m] H Q E := .inl (x_many h q)
theorem x_manyN (h : NotI pMany H v) (q : E (.ref cM) none H) : spManyX cM [v] H Q E := .inr ⟨v, rfl, h, q⟩
theorem x_numberX (h : 0 ≤ n ∧ n < m) (q : Q .non H) : spNumX cN [.int m, .int n] H Q E := .inl (x_number h q)
theorem x_numberN (h : NotI (pNum m) H v) (q : E (.ref cN) none H) : spNumX cN [.int m, v] H Q E := .inr ⟨v, m, rfl, h, q⟩
theorem x_liesN (h : NotI pLies H v) (q : E (.ref cL) none H) : spLiesX cL [v] H Q E := ⟨v, rfl, h, q⟩
theorem x_cardsX (h : 1 ≤ m ∧ m ≤ 16) [l : LL H a rs cs] (c : CardsOk m cs) (q : ∀ H', Up H H' → Q .non H') : spCardsX cM cC [.int m, .ref a] H Q E := .inl (x_cards h c q)
theorem x_cardsN (h : CdE cM cC H vm vc C) (q : ∀ H', Up H H' → E (.ref C) none H') : spCardsX cM cC [vm, vc] H Q E := .inr ⟨vm, vc, C, rfl, h, q⟩
end
section
variable {P : Program} {w : World} {K : PySem.W.Frag} {mg : Str → Option Value} {base : Heap} {cM cC cN cS cL cB cO cT : Addr}
theorem k_asked_manyX (F : Df K mg "asked_many" s_asked_many p_asked_many) (hB : ∀ y ∈ bl, mg y = none) (kW : Kn P w K mg base 1 "is_whole" p_is_whole spWhole) (gM : Gm mg "MOST" (.int 16)) (xM : XkM K mg "BadMany" cM) :
    Kn P w K mg base 2 "asked_many" p_asked_many (spManyX cM) := by
  refine okd F d_asked_many hB (fun vs H Q E h => by rcases h with ⟨v, e, _⟩ | ⟨v, e, _⟩ <;> rw [e] <;> rfl) fun X bd C vs H Q E tk h => ?_
  have t0 : Tk X (fun cls d _ H => E cls d H) := ⟨tk⟩
  have x0 := bd.xk xM
  have f1 := bd.fk kW (by decide)
  have g1 := bd.gv gM
  rcases h with ⟨m, rfl, h1, h2, q⟩ | ⟨v, rfl, b, q⟩
  · show sB X _ _ [some (.int m)] H
    leaf_len
    exact q
  · show sB X _ _ [some v] H
    cases b with
    | kd h n =>
      leaf_len
      refine x_wholeN h n ?_
      leaf_len
      exact q
    | @num i e h =>
      subst e
      by_cases h1 : 1 ≤ i
      · have h2 : ¬ i ≤ 16 := by omega
        leaf_len
        exact q
      · leaf_len
        exact q
theorem k_asked_numberX (F : Df K mg "asked_number" s_asked_number p_asked_number) (hB : ∀ y ∈ bl, mg y = none) (kW : Kn P w K mg base 1 "is_whole" p_is_whole spWhole) (xN : XkM K mg "BadNumber" cN) :
    Kn P w K mg base 2 "asked_number" p_asked_number (spNumX cN) := by
  refine okd F d_asked_number hB (fun vs H Q E h => by rcases h with ⟨v, _, e, _⟩ | ⟨v, _, e, _⟩ <;> rw [e] <;> rfl) fun X bd C vs H Q E tk h => ?_
  have t0 : Tk X (fun cls d _ H => E cls d H) := ⟨tk⟩
  have x0 := bd.xk xN
  have f1 := bd.fk kW (by decide)
  rcases h with ⟨m, n, rfl, h1, h2, q⟩ | ⟨v, m, rfl, b, q⟩
  · show sB X _ _ [some (.int m), some (.int n)] H
    leaf_len
    exact q
  · show sB X _ _ [some (.int m), some v] H
    cases b with
    | kd h n =>
      leaf_len
      refine x_wholeN h n ?_
      leaf_len
      exact q
    | @num i e h =>
      subst e
      by_cases h1 : 0 ≤ i
      · have h2 : ¬ i < m := by omega
        leaf_len
        exact q
      · leaf_len
        exact q
theorem k_asked_liesX (F : Df K mg "asked_lies" s_asked_lies p_asked_lies) (hB : ∀ y ∈ bl, mg y = none) (kW : Kn P w K mg base 1 "is_whole" p_is_whole spWhole) (xL : XkM K mg "BadLies" cL) :
    Kn P w K mg base 2 "asked_lies" p_asked_lies (spLiesX cL) := by
  refine okd F d_asked_lies hB (fun vs H Q E ⟨v, e, _⟩ => by rw [e]; rfl) fun X bd C vs H Q E tk h => ?_
  have t0 : Tk X (fun cls d _ H => E cls d H) := ⟨tk⟩
  have x0 := bd.xk xL
  have f1 := bd.fk kW (by decide)
  obtain ⟨v, rfl, b, q⟩ := h
  show sB X _ _ [some v] H
  cases b with
  | kd h n =>
    leaf_len
    refine x_wholeN h n ?_
    leaf_len
    exact q
  | @num i e h =>
    subst e
    have h1 : i < 0 := by omega
    leaf_len
    exact q
theorem k_is_cardX (F : Df K mg "is_card" s_is_card p_is_card) (hB : ∀ y ∈ bl, mg y = none) (kW : Kn P w K mg base 1 "is_whole" p_is_whole spWhole) :
    Kn P w K mg base 2 "is_card" p_is_card spCardV := by
  refine okd F d_is_card hB (fun vs H Q E ⟨v, m, b, e, _⟩ => by rw [e]; rfl) fun X bd C vs H Q E tk h => ?_
  obtain ⟨v, m, b, rfl, hv, q⟩ := h
  have f1 := bd.fk kW (by decide)
  show sB X _ _ [some v, some (.int m), none, none] H
  cases hv with
  | @kd k h n =>
    have kc : Kc H v k := ⟨h⟩
    have z : Kit k "list" false := by
      cases k <;> first | exact ⟨by decide +kernel⟩ | exact absurd rfl n
    leaf_len
    exact q _ ⟨Exs.ex⟩
  | @row a zs e h l i f =>
    subst e
    have hA : At H a (.lst (zs.map Prod.fst)) := ⟨h⟩
    leaf_len
    refine e_lc1 2 r_is_card_0 g_is_card_0 (by decide +kernel) (i_list ?_)
    leaf_len
    refine y_src ?_
    refine lcL zs Prod.fst (fun _ => true) (fun z => .bl z.2) rfl rfl (by omega) (fun z hz Hc u => ?_) (fun D H' nw => ?_)
    · refine x_tp (tn0 fun X' s c => ?_)
      obtain ⟨x, b⟩ := z
      cases (i _ hz).up u.ex with
      | kd h n =>
        leaf_len
        refine x_wholeN h n ?_
        leaf_len
        exact x_end rfl
      | @num j e =>
        dsimp only at e
        subst e
        by_cases h0 : 0 ≤ j
        · leaf_len
          exact x_end (by rw [decide_eq_true h0])
        · leaf_len
          exact x_end (by rw [decide_eq_false h0])
    · rw [filter_true, show (fun z : V × Bool => V.bl z.2) = V.bl ∘ Prod.snd from rfl, ← List.map_map] at nw
      leaf_len
      refine iteY (by rw [f]; rfl) ?_
      leaf_len
      exact q _ ⟨Exs.ex⟩
  | @num a ns e h l i =>
    subst e
    have hA : At H a (.lst (ns.map V.int)) := ⟨h⟩
    leaf_len
    refine e_lc1 2 r_is_card_0 g_is_card_0 (by decide +kernel) (i_list ?_)
    leaf_len
    refine y_src ?_
    refine lcL ns V.int (fun _ => true) (fun _ => .bl true) rfl rfl (by omega) (fun n hn Hc u => ?_) (fun D H' nw => ?_)
    · refine x_tp (tn0 fun X' s c => ?_)
      have := i n hn
      leaf_len
      one_sign
      exact x_end (by rw [decide_eq_true this.2])
    · rw [filter_true] at nw
      leaf_len
      refine iteF' (by rw [all_const]; rfl) ?_
      leaf_len
      refine e_lc1 3 r_is_card_1 g_is_card_1 (by decide +kernel) (i_r2 ?_)
      leaf_len
      rw [List.length_map]
      refine y_r2 (by omega) ?_
      refine lcR (fun _ => true) (fun k => .bl (decide (ns.getD k 0 < ns.getD (k + 1) 0))) rfl (by omega) (fun k hk Hc u => ?_) (fun D H' nw => ?_)
      · refine x_tp (tn0 fun X' s c => ?_)
        obtain ⟨x1, h1, _⟩ := get_lt (as := ns) (i := k) (by omega)
        obtain ⟨x2, h2, _⟩ := get_lt (as := ns) (i := k + 1) (by omega)
        leaf_len
        refine y_ix (n := k) (v := .int x1) (by rw [List.getElem?_map, h1]; rfl) (by omega) ?_
        leaf_len
        refine y_ix (n := k + 1) (v := .int x2) (by rw [List.getElem?_map, h2]; rfl) (by omega) ?_
        leaf_len
        exact x_end (by rw [List.getD_eq_getElem?_getD, List.getD_eq_getElem?_getD, h1, h2]; rfl)
      · rw [filter_true] at nw
        leaf_len
        rw [show ((ns.length : Int) - 1).toNat = ns.length - 1 by omega]
        exact q _ ⟨Exs.ex⟩
theorem k_asked_cardsX (F : Df K mg "asked_cards" s_asked_cards p_asked_cards) (hB : ∀ y ∈ bl, mg y = none) (kM : Kn P w K mg base 2 "asked_many" p_asked_many (spManyX cM)) (kC : Kn P w K mg base 2 "is_card" p_is_card spCardV) (gM : Gm mg "MOST_CARDS" (.int 12)) (xC : XkM K mg "BadCards" cC) :
    Kn P w K mg base 3 "asked_cards" p_asked_cards (spCardsX cM cC) := by
  refine okd F d_asked_cards hB (fun vs H Q E h => by rcases h with ⟨a, m, rs, cs, e, _⟩ | ⟨a, m, rs, e, _⟩ <;> rw [e] <;> rfl) fun X bd C vs H Q E tk h => ?_
  have t0 : Tk X (fun cls d _ H => E cls d H) := ⟨tk⟩
  have x0 := bd.xk xC
  have f1 := bd.fk kM (by decide)
  have f2 := bd.fk kC (by decide)
  have g1 := bd.gv gM
  rcases h with ⟨a, m, rs, cs, rfl, h1, h2, hL, ok, q⟩ | ⟨vm, vc, D, rfl, b, q⟩
  · have hl := ok.len
    have hrs := hL.len
    show sB X _ _ [some (.int m), some (.ref a), none] H
    leaf_len
    refine x_manyX (by omega) ?_
    leaf_len
    rw [List.length_map]
    one_sign
    refine e_lc1 2 r_asked_cards_0 g_asked_cards_0 (by decide +kernel) (i_list ?_)
    leaf_len
    refine y_src ?_
    refine lcL (rs.zip cs) (fun p => V.ref p.1) (fun _ => true) (fun _ => .bl true) rfl (zip_refs hrs) (by rw [List.length_zip]; omega) (fun n hn Hc u => ?_) (fun D H' nw => ?_)
    · refine x_tp (tn0 fun X' s c => ?_)
      have r := (hL.up u.ex).atZ hn
      have ok1 := ok.all _ (List.of_mem_zip hn).2
      have := ok1.len
      leaf_len
      refine ⟨_, _, true, rfl, by rw [← ok1.upB]; exact .num rfl r.h (by omega) ok1.wi, fun H' u' => ?_⟩
      exact x_end rfl
    · rw [filter_true] at nw
      leaf_len
      refine iteF' (by rw [all_const]; rfl) ?_
      leaf_len
      exact q _ ⟨Exs.ex⟩
  · show sB X _ _ [some vm, some vc, none] H
    cases b with
    | many h =>
      leaf_len
      refine x_manyN h ?_
      exact q _ ⟨Exs.ex⟩
    | @cards m e h b =>
      subst e
      leaf_len
      refine x_manyX h ?_
      cases b with
      | @kd k h n =>
        have kc : Kc H vc k := ⟨h⟩
        have z : Kit k "list" false := by
          cases k <;> first | exact ⟨by decide +kernel⟩ | exact absurd rfl n
        leaf_len
        exact q _ ⟨Exs.ex⟩
      | @many a xs e h l =>
        subst e
        have hA : At H a (.lst xs) := ⟨h⟩
        leaf_len
        one_sign
        exact q _ ⟨Exs.ex⟩
      | @row a zs e h l i f =>
        subst e
        have hA : At H a (.lst (zs.map Prod.fst)) := ⟨h⟩
        leaf_len
        rw [List.length_map]
        one_sign
        refine e_lc1 2 r_asked_cards_0 g_asked_cards_0 (by decide +kernel) (i_list ?_)
        leaf_len
        refine y_src ?_
        refine lcL zs Prod.fst (fun _ => true) (fun z => .bl z.2) rfl rfl (by omega) (fun z hz Hc u => ?_) (fun D H' nw => ?_)
        · refine x_tp (tn0 fun X' s c => ?_)
          leaf_len
          refine ⟨_, _, z.2, rfl, (i _ hz).up u.ex, fun H' u' => ?_⟩
          exact x_end rfl
        · rw [filter_true, show (fun z : V × Bool => V.bl z.2) = V.bl ∘ Prod.snd from rfl, ← List.map_map] at nw
          leaf_len
          refine iteY (by rw [f]; rfl) ?_
          leaf_len
          exact q _ ⟨Exs.ex⟩
end

/-! ### k06: the doors, refusing -/
/-- not True or False for each of n cards -/
inductive BadS (n : Nat) (H : Hp) (v : V) : Prop where
  | kd {k : Kd} (h : KdV H v k) (n : k ≠ .lst)
  | len {a : Addr} {xs : List V} (e : v = .ref a) (h : H a = some (.lst xs)) (l : xs.length ≠ n)
  | row {a : Addr} {zs : List (V × Bool)} (e : v = .ref a) (h : H a = some (.lst (zs.map Prod.fst))) (l : zs.length = n) (i : ∀ z ∈ zs, ∃ k, KdV H z.1 k ∧ isB k = z.2) (f : (zs.map Prod.snd).all id = false)
theorem BadS.up {n : Nat} {H H' : Hp} {v : V} (e : Ex H H') (h : BadS n H v) : BadS n H' v := by
  cases h with
  | kd h n => exact .kd (h.up e) n
  | len e1 h l => exact .len e1 (e _ _ h) l
  | row e1 h l i f => exact .row e1 (e _ _ h) l (fun z hz => by obtain ⟨k, h1, h2⟩ := i z hz; exact ⟨k, h1.up e, h2⟩) f
/-- no order of n cards -/
inductive BadO (n : Nat) (H : Hp) (v : V) : Prop where
  | kd {k : Kd} (h : KdV H v k) (n : k ≠ .lst)
  | row {a : Addr} {zs : List (V × Bool)} (e : v = .ref a) (h : H a = some (.lst (zs.map Prod.fst))) (l : zs.length ≤ 50) (i : ∀ z ∈ zs, ∃ k, KdV H z.1 k ∧ (isI k && !isB k) = z.2) (f : (zs.map Prod.snd).all id = false)
  | num {a : Addr} {ns : List Int} (e : v = .ref a) (h : H a = some (.lst (ns.map V.int))) (l : ns.length ≤ 50) (f : ns.length ≠ n ∨ ∃ k : Nat, k < n ∧ (k : Int) ∉ ns)
theorem BadO.up {n : Nat} {H H' : Hp} {v : V} (e : Ex H H') (h : BadO n H v) : BadO n H' v := by
  cases h with
  | kd h n => exact .kd (h.up e) n
  | row e1 h l i f => exact .row e1 (e _ _ h) l (fun z hz => by obtain ⟨k, h1, h2⟩ := i z hz; exact ⟨k, h1.up e, h2⟩) f
  | num e1 h l f => exact .num e1 (e _ _ h) l f
/-- good many, good cards -/
structure Cds (H : Hp) (vm vc : V) (m : Int) (a : Addr) (rs : List Addr) (cs : List (List Int)) : Prop where
  e1 : vm = .int m
  e2 : vc = .ref a
  hm : 1 ≤ m ∧ m ≤ 16
  ll : LL H a rs cs
  ok : CardsOk m cs
inductive RMarks (cM cC cN : Addr) (H : Hp) : List V → Addr → Prop where
  | cds {vm vc vn C} (h : CdE cM cC H vm vc C) : RMarks cM cC cN H [vm, vc, vn] C
  | num {vm vc vn m a rs cs} (h : Cds H vm vc m a rs cs) (n : NotI (pNum m) H vn) : RMarks cM cC cN H [vm, vc, vn] cN
inductive RParted (cM cC cN : Addr) (H : Hp) : List V → Addr → Prop where
  | cds {vm vc v1 v2 C} (h : CdE cM cC H vm vc C) : RParted cM cC cN H [vm, vc, v1, v2] C
  | one {vm vc v1 v2 m a rs cs} (h : Cds H vm vc m a rs cs) (n : NotI (pNum m) H v1) : RParted cM cC cN H [vm, vc, v1, v2] cN
  | two {vm vc v2 m a rs cs} {i : Int} (h : Cds H vm vc m a rs cs) (b : 0 ≤ i ∧ i < m) (n : NotI (pNum m) H v2) : RParted cM cC cN H [vm, vc, .int i, v2] cN
inductive RTog (cM cC cT : Addr) (H : Hp) : List V → Addr → Prop where
  | cds {vm vc v1 C} (h : CdE cM cC H vm vc C) : RTog cM cC cT H [vm, vc, v1] C
  | more {vm vc v1 m a rs cs C} (h : Cds H vm vc m a rs cs) (n : CdE cM cC H vm v1 C) : RTog cM cC cT H [vm, vc, v1] C
  | len {vm vc v1 m a rs cs a' rs' cs'} (h : Cds H vm vc m a rs cs) (h' : Cds H vm v1 m a' rs' cs') (n : 12 < cs.length + cs'.length) : RTog cM cC cT H [vm, vc, v1] cT
inductive ROrd (cM cC cO : Addr) (H : Hp) : List V → Addr → Prop where
  | cds {vm vc v1 C} (h : CdE cM cC H vm vc C) : ROrd cM cC cO H [vm, vc, v1] C
  | ord {vm vc v1 m a rs cs} (h : Cds H vm vc m a rs cs) (n : BadO cs.length H v1) : ROrd cM cC cO H [vm, vc, v1] cO
inductive RJud (cM cC cL : Addr) (H : Hp) : List V → Addr → Prop where
  | cds {vm vc v1 C} (h : CdE cM cC H vm vc C) : RJud cM cC cL H [vm, vc, v1] C
  | lies {vm vc v1 m a rs cs} (h : Cds H vm vc m a rs cs) (n : NotI pLies H v1) : RJud cM cC cL H [vm, vc, v1] cL
inductive RTold (cM cC cS cL : Addr) (H : Hp) : List V → Addr → Prop where
  | cds {vm vc v1 v2 C} (h : CdE cM cC H vm vc C) : RTold cM cC cS cL H [vm, vc, v1, v2] C
  | said {vm vc v1 v2 m a rs cs} (h : Cds H vm vc m a rs cs) (n : BadS cs.length H v1) : RTold cM cC cS cL H [vm, vc, v1, v2] cS
  | lies {vm vc v2 m a rs cs s} {bs : List Bool} (h : Cds H vm vc m a rs cs) (h2 : H s = some (.lst (bs.map V.bl))) (l : bs.length = cs.length) (n : NotI pLies H v2) : RTold cM cC cS cL H [vm, vc, .ref s, v2] cL
inductive RMade (cM cB : Addr) (H : Hp) : List V → Addr → Prop where
  | many {vm v1} (h : NotI pMany H vm) : RMade cM cB H [vm, v1] cM
  | base {m v1} (h : pMany m) (n : NotI pBase H v1) : RMade cM cB H [.int m, v1] cB
inductive RFew (cM cL : Addr) (H : Hp) : List V → Addr → Prop where
  | many {vm v1} (h : NotI pOne H vm) : RFew cM cL H [vm, v1] cM
  | lies {m v1} (h : 1 ≤ m) (n : NotI pTwo H v1) : RFew cM cL H [.int m, v1] cL
  | most {m} (h : 16 < m) : RFew cM cL H [.int m, .int 1] cM
inductive RBest (cM cL : Addr) (H : Hp) : List V → Addr → Prop where
  | many {vm v1} (h : NotI pMany H vm) : RBest cM cL H [vm, v1] cM
  | lies {m v1} (h : pMany m) (n : NotI pTwo H v1) : RBest cM cL H [.int m, v1] cL
/-- refused as R says -/
def spR (R : Hp → List V → Addr → Prop) : Sp := fun vs H _ E => ∃ C, R H vs C ∧ ∀ H', Up H H' → E (.ref C) none H'
theorem x_R {R : Hp → List V → Addr → Prop} {H : Hp} {vs : List V} {C : Addr} {Q : VK} {E : XK} (h : R H vs C) (q : ∀ H', Up H H' → E (.ref C) none H') : spR R vs H Q E := ⟨C, h, q⟩
theorem inV_two {i : Int} (h : ¬ pTwo i) : inV (.int i) [.int 0, .int 1] = false := by
  have h1 : i ≠ 0 := fun z => h (.inl z)
  have h2 : i ≠ 1 := fun z => h (.inr z)
  simp only [inV, List.any_cons, List.any_nil, Bool.or_false, Bool.or_eq_false_iff]
  exact ⟨beq_eq_false_iff_ne.mpr (Ne.symm h1), beq_eq_false_iff_ne.mpr (Ne.symm h2)⟩
theorem kNoLst {k : Kd} (n : k ≠ .lst) : Kit k "list" false := by
  cases k <;> first | exact ⟨by decide +kernel⟩ | exact absurd rfl n
section
variable {P : Program} {w : World} {K : PySem.W.Frag} {mg : Str → Option Value} {base : Heap} {cM cC cN cS cL cB cO cT : Addr}
theorem k_marksR (F : Df K mg "marks" s_marks p_marks) (hB : ∀ y ∈ bl, mg y = none) (kC : Kn P w K mg base 3 "asked_cards" p_asked_cards (spCardsX cM cC)) (kN : Kn P w K mg base 2 "asked_number" p_asked_number (spNumX cN)) :
    Kn P w K mg base 4 "marks" p_marks (spR (RMarks cM cC cN)) := by
  refine okd F d_marks hB (fun vs H Q E ⟨C, h, _⟩ => by cases h <;> rfl) fun X bd C vs H Q E tk h => ?_
  have t0 : Tk X (fun cls d _ H => E cls d H) := ⟨tk⟩
  have f1 := bd.fk kC (by decide)
  have f2 := bd.fk kN (by decide)
  obtain ⟨D, h, q⟩ := h
  cases h with
  | @cds vm vc vn C h =>
    show sB X _ _ [some vm, some vc, some vn] H
    leaf_len
    refine x_cardsN h fun H1 u1 => ?_
    exact q _ ⟨Exs.ex⟩
  | @num vm vc vn m a rs cs h n =>
    obtain ⟨rfl, rfl, hm, ll, ok⟩ := h
    show sB X _ _ [some (.int m), some (.ref a), some vn] H
    leaf_len
    refine x_cardsX hm ok fun H1 u1 => ?_
    leaf_len
    refine x_numberN (n.up u1.ex) ?_
    exact q _ ⟨Exs.ex⟩
theorem k_judgedR (F : Df K mg "judged" s_judged p_judged) (hB : ∀ y ∈ bl, mg y = none) (kC : Kn P w K mg base 3 "asked_cards" p_asked_cards (spCardsX cM cC)) (kL : Kn P w K mg base 2 "asked_lies" p_asked_lies (spLiesX cL)) :
    Kn P w K mg base 4 "judged" p_judged (spR (RJud cM cC cL)) := by
  refine okd F d_judged hB (fun vs H Q E ⟨C, h, _⟩ => by cases h <;> rfl) fun X bd C vs H Q E tk h => ?_
  have t0 : Tk X (fun cls d _ H => E cls d H) := ⟨tk⟩
  have f1 := bd.fk kC (by decide)
  have f2 := bd.fk kL (by decide)
  obtain ⟨D, h, q⟩ := h
  cases h with
  | @cds vm vc vn C h =>
    show sB X _ _ [some vm, some vc, some vn, none, none] H
    leaf_len
    refine x_cardsN h fun H1 u1 => ?_
    exact q _ ⟨Exs.ex⟩
  | @lies vm vc vn m a rs cs h n =>
    obtain ⟨rfl, rfl, hm, ll, ok⟩ := h
    show sB X _ _ [some (.int m), some (.ref a), some vn, none, none] H
    leaf_len
    refine x_cardsX hm ok fun H1 u1 => ?_
    leaf_len
    refine x_liesN (n.up u1.ex) ?_
    exact q _ ⟨Exs.ex⟩
theorem k_toldR (F : Df K mg "told" s_told p_told) (hB : ∀ y ∈ bl, mg y = none) (kC : Kn P w K mg base 3 "asked_cards" p_asked_cards (spCardsX cM cC)) (kL : Kn P w K mg base 2 "asked_lies" p_asked_lies (spLiesX cL)) (xS : XkM K mg "BadSaid" cS) :
    Kn P w K mg base 4 "told" p_told (spR (RTold cM cC cS cL)) := by
  refine okd F d_told hB (fun vs H Q E ⟨C, h, _⟩ => by cases h <;> rfl) fun X bd C vs H Q E tk h => ?_
  have t0 : Tk X (fun cls d _ H => E cls d H) := ⟨tk⟩
  have f1 := bd.fk kC (by decide)
  have f2 := bd.fk kL (by decide)
  have ru := bd.ru
  have x0 := bd.xk xS
  obtain ⟨D, h, q⟩ := h
  cases h with
  | @cds vm vc v1 v2 C h =>
    show sB X _ _ [some vm, some vc, some v1, some v2, none, none, none, none] H
    leaf_len
    refine x_cardsN h fun H1 u1 => ?_
    exact q _ ⟨Exs.ex⟩
  | @said vm vc v1 v2 m a rs cs h n =>
    obtain ⟨rfl, rfl, hm, ll, ok⟩ := h
    have hrs := ll.len
    have hlc := ok.len
    show sB X _ _ [some (.int m), some (.ref a), some v1, some v2, none, none, none, none] H
    leaf_len
    refine x_cardsX hm ok fun H1 u1 => ?_
    cases n.up u1.ex with
    | @kd k h n =>
      have kc : Kc H1 v1 k := ⟨h⟩
      have z := kNoLst n
      leaf_len
      exact q _ ⟨Exs.ex⟩
    | @len a xs e h l =>
      subst e
      have hA : At H1 a (.lst xs) := ⟨h⟩
      leaf_len
      rw [List.length_map]
      one_sign
      exact q _ ⟨Exs.ex⟩
    | @row a zs e h l i f =>
      subst e
      have hA : At H1 a (.lst (zs.map Prod.fst)) := ⟨h⟩
      leaf_len
      rw [List.length_map, List.length_map]
      one_sign
      refine e_lc1 6 r_told_0 g_told_0 (by decide +kernel) (i_list ?_)
      leaf_len
      refine y_src ?_
      refine lcL zs Prod.fst (fun _ => true) (fun z => .bl z.2) rfl rfl (by omega) (fun z hz Hc u => ?_) (fun D H' nw => ?_)
      · refine x_tp (tn0 fun X' s c => ?_)
        obtain ⟨k, h1, h2⟩ := i z hz
        have kc : Kc Hc z.1 k := ⟨h1.up u.ex⟩
        leaf_len
        exact x_end (by rw [h2])
      · rw [filter_true, show (fun z : V × Bool => V.bl z.2) = V.bl ∘ Prod.snd from rfl, ← List.map_map] at nw
        leaf_len
        refine iteY (by rw [f]; rfl) ?_
        leaf_len
        exact q _ ⟨Exs.ex⟩
  | @lies vm vc v2 m a rs cs s bs h h2 l n =>
    obtain ⟨rfl, rfl, hm, ll, ok⟩ := h
    have hrs := ll.len
    have hlc := ok.len
    have hA : At H s (.lst (bs.map V.bl)) := ⟨h2⟩
    show sB X _ _ [some (.int m), some (.ref a), some (.ref s), some v2, none, none, none, none] H
    leaf_len
    refine x_cardsX hm ok fun H1 u1 => ?_
    leaf_len
    rw [List.length_map, List.length_map]
    one_sign
    refine e_lc1 6 r_told_0 g_told_0 (by decide +kernel) (i_list ?_)
    leaf_len
    refine y_src ?_
    refine lcL bs V.bl (fun _ => true) (fun _ => .bl true) rfl rfl (by omega) (fun z hz Hc u => ?_) (fun D H' nw => ?_)
    · refine x_tp (tn0 fun X' s c => ?_)
      leaf_len
      exact x_end rfl
    · rw [filter_true] at nw
      leaf_len
      refine iteF' (by rw [all_const]; rfl) ?_
      leaf_len
      refine x_liesN (n.up Exs.ex) ?_
      exact q _ ⟨Exs.ex⟩
theorem k_madeR (F : Df K mg "made" s_made p_made) (hB : ∀ y ∈ bl, mg y = none) (gM : Gm mg "MOST" (.int 16)) (kA : Kn P w K mg base 2 "asked_many" p_asked_many (spManyX cM)) (kW : Kn P w K mg base 1 "is_whole" p_is_whole spWhole) (xB : XkM K mg "BadBase" cB) :
    Kn P w K mg base 4 "made" p_made (spR (RMade cM cB)) := by
  refine okd F d_made hB (fun vs H Q E ⟨C, h, _⟩ => by cases h <;> rfl) fun X bd C vs H Q E tk h => ?_
  have t0 : Tk X (fun cls d _ H => E cls d H) := ⟨tk⟩
  have f1 := bd.fk kA (by decide)
  have f2 := bd.fk kW (by decide)
  have x0 := bd.xk xB
  have g1 := bd.gv gM
  obtain ⟨D, h, q⟩ := h
  cases h with
  | @many vm v1 h =>
    show sB X _ _ [some vm, some v1, none, none, none, none] H
    leaf_len
    refine x_manyN h ?_
    exact q _ ⟨Exs.ex⟩
  | @base m v1 h n =>
    show sB X _ _ [some (.int m), some v1, none, none, none, none] H
    leaf_len
    refine x_manyX h ?_
    cases n with
    | kd h n =>
      leaf_len
      refine x_wholeN h n ?_
      leaf_len
      exact q _ ⟨Exs.ex⟩
    | @num i e h =>
      subst e
      by_cases h1 : 2 ≤ i
      · have h2 : ¬ i ≤ 16 := by omega
        leaf_len
        exact q _ ⟨Exs.ex⟩
      · leaf_len
        exact q _ ⟨Exs.ex⟩
theorem k_bestR (F : Df K mg "best" s_best p_best) (hB : ∀ y ∈ bl, mg y = none) (kA : Kn P w K mg base 2 "asked_many" p_asked_many (spManyX cM)) (kW : Kn P w K mg base 1 "is_whole" p_is_whole spWhole) (xL : XkM K mg "BadLies" cL) :
    Kn P w K mg base 4 "best" p_best (spR (RBest cM cL)) := by
  refine okd F d_best hB (fun vs H Q E ⟨C, h, _⟩ => by cases h <;> rfl) fun X bd C vs H Q E tk h => ?_
  have t0 : Tk X (fun cls d _ H => E cls d H) := ⟨tk⟩
  have f1 := bd.fk kA (by decide)
  have f2 := bd.fk kW (by decide)
  have ru := bd.ru
  have x0 := bd.xk xL
  obtain ⟨D, h, q⟩ := h
  cases h with
  | @many vm v1 h =>
    show sB X _ _ [some vm, some v1, none, none, none, none, none, none] H
    leaf_len
    refine x_manyN h ?_
    exact q _ ⟨Exs.ex⟩
  | @lies m v1 h n =>
    show sB X _ _ [some (.int m), some v1, none, none, none, none, none, none] H
    leaf_len
    refine x_manyX h ?_
    cases n with
    | kd h n =>
      leaf_len
      refine x_wholeN h n ?_
      leaf_len
      exact q _ ⟨Exs.ex⟩
    | @num i e h =>
      subst e
      leaf_len
      refine y_niT rfl ?_
      leaf_len
      refine iteY (by rw [inV_two h]; rfl) ?_
      leaf_len
      exact q _ ⟨Exs.ex⟩
/-- together: refused, or a list of all cards -/
def spTogR (cM cC cT : Addr) : Sp := fun vs H Q E => spTogether vs H Q E ∨ spR (RTog cM cC cT) vs H Q E
theorem k_togetherR (F : Df K mg "together" s_together p_together) (hB : ∀ y ∈ bl, mg y = none) (kC : Kn P w K mg base 3 "asked_cards" p_asked_cards (spCardsX cM cC)) (gM : Gm mg "MOST_CARDS" (.int 12)) (xT : XkM K mg "TooMany" cT) :
    Kn P w K mg base 4 "together" p_together (spTogR cM cC cT) := by
  refine okd F d_together hB (fun vs H Q E h => by rcases h with ⟨_, _, _, _, _, _, _, e, _⟩ | ⟨C, h, _⟩; (rw [e]; rfl); (cases h <;> rfl)) fun X bd C vs H Q E tk h => ?_
  have t0 : Tk X (fun cls d _ H => E cls d H) := ⟨tk⟩
  have x0 := bd.xk xT
  have f1 := bd.fk kC (by decide)
  have g1 := bd.gv gM
  rcases h with ⟨a, b, m, rs, rs', cs, cs', rfl, hh, hL, hL', ok, ok', hl, q⟩ | ⟨D, h, q⟩
  rotate_left
  · cases h with
    | @cds vm vc v1 C h =>
      show sB X _ _ [some vm, some vc, some v1, none] H
      leaf_len
      refine x_cardsN h fun H1 u1 => ?_
      exact q _ ⟨Exs.ex⟩
    | @more vm vc v1 m a rs cs C h n =>
      obtain ⟨rfl, rfl, hm, ll, ok⟩ := h
      show sB X _ _ [some (.int m), some (.ref a), some v1, none] H
      leaf_len
      refine x_cardsX hm ok fun H1 u1 => ?_
      leaf_len
      refine x_cardsN (n.up u1.ex) fun H1 u1 => ?_
      exact q _ ⟨Exs.ex⟩
    | @len vm vc v1 m a rs cs a' rs' cs' h h' n =>
      obtain ⟨rfl, rfl, hm, hL, ok⟩ := h
      obtain ⟨_, rfl, _, hL', ok'⟩ := h'
      have h1 := hL.len
      have h2 := hL'.len
      show sB X _ _ [some (.int m), some (.ref a), some (.ref a'), none] H
      leaf_len
      refine x_cardsX (by omega) ok fun H1 u1 => ?_
      leaf_len
      refine x_cardsX (by omega) ok' fun H2 u2 => ?_
      leaf_len
      rw [List.length_map, List.length_map]
      leaf_len
      one_sign
      exact q _ ⟨Exs.ex⟩
  have h1 := hL.len
  have h2 := hL'.len
  show sB X _ _ [some (.int m), some (.ref a), some (.ref b), none] H
  leaf_len
  refine x_cardsX (by omega) ok fun H1 u1 => ?_
  leaf_len
  refine x_cardsX (by omega) ok' fun H2 u2 => ?_
  leaf_len
  rw [List.length_map, List.length_map]
  leaf_len
  one_sign
  refine e_lc1 3 r_together_0 g_together_0 (by decide +kernel) (i_list ?_)
  leaf_len
  refine y_cat (by rw [List.length_map, List.length_map]; omega) fun p H3 nw => ?_
  have l1 : LL H3 a rs cs := inferInstance
  have l2 : LL H3 b rs' cs' := inferInstance
  have rw2 := pair_append l1.row l2.row
  refine y_src ?_
  refine lcLN ((rs ++ rs').zip (cs ++ cs')) (fun p => V.ref p.1) (fun _ => true) (fun p => p.2.map V.int) rfl (by rw [← List.map_append]; exact zip_refs (by simp; omega)) (by simp; omega) (fun c hn Hc u => ?_) (fun D ps H' nw => ?_)
  · refine x_tp (tm0 fun X' s c' => ?_)
    have r : At Hc c.1 (.lst (c.2.map V.int)) := ⟨u.ex _ _ (pair_zip rw2 hn)⟩
    leaf_len
    refine y_list fun p' H5 nw' => ?_
    exact x_endN nw'.fr rfl
  · rw [filter_true, show (fun p : Addr × List Int => p.2.map V.int) = (fun c : List Int => c.map V.int) ∘ Prod.snd from rfl, ← List.map_map, zip_snd (by simp; omega)] at nw
    exact q D ps H' (nw.pre Exs.ex)
/-- ordered: refused, or of no card -/
def spOrdR (cM cC cO : Addr) : Sp := fun vs H Q E => (∃ (a o : Addr) (m : Int), vs = [.int m, .ref a, .ref o] ∧ (1 ≤ m ∧ m ≤ 16) ∧ At H a (.lst []) ∧ At H o (.lst []) ∧ ∀ p H', New H p (.lst []) H' → Q (.ref p) H') ∨ spR (ROrd cM cC cO) vs H Q E
theorem k_orderedR (F : Df K mg "ordered" s_ordered p_ordered) (hB : ∀ y ∈ bl, mg y = none) (kC : Kn P w K mg base 3 "asked_cards" p_asked_cards (spCardsX cM cC)) (kW : Kn P w K mg base 1 "is_whole" p_is_whole spWhole) (xO : XkM K mg "BadOrder" cO) :
    Kn P w K mg base 4 "ordered" p_ordered (spOrdR cM cC cO) := by
  refine okd F d_ordered hB (fun vs H Q E h => by rcases h with ⟨_, _, _, e, _⟩ | ⟨C, h, _⟩; (rw [e]; rfl); (cases h <;> rfl)) fun X bd C vs H Q E tk h => ?_
  have t0 : Tk X (fun cls d _ H => E cls d H) := ⟨tk⟩
  have x0 := bd.xk xO
  have f1 := bd.fk kC (by decide)
  have f2 := bd.fk kW (by decide)
  have ru := bd.ru
  rcases h with ⟨a, o, m, rfl, hm, hA, hO, q⟩ | ⟨D, h, q⟩
  rotate_left
  · cases h with
    | @cds vm vc v1 C h =>
      show sB X _ _ [some vm, some vc, some v1, none, none] H
      leaf_len
      refine x_cardsN h fun H1 u1 => ?_
      exact q _ ⟨Exs.ex⟩
    | @ord vm vc v1 m a rs cs h n =>
      obtain ⟨rfl, rfl, hm, ll, ok⟩ := h
      have hrs := ll.len
      have hlc := ok.len
      show sB X _ _ [some (.int m), some (.ref a), some v1, none, none] H
      leaf_len
      refine x_cardsX hm ok fun H1 u1 => ?_
      cases n.up u1.ex with
      | @kd k h n =>
        have kc : Kc H1 v1 k := ⟨h⟩
        have z := kNoLst n
        leaf_len
        exact q _ ⟨Exs.ex⟩
      | @row o zs e h l i f =>
        subst e
        have hA : At H1 o (.lst (zs.map Prod.fst)) := ⟨h⟩
        leaf_len
        refine e_lc1 3 r_ordered_0 g_ordered_0 (by decide +kernel) (i_list ?_)
        leaf_len
        refine y_src ?_
        refine lcL zs Prod.fst (fun _ => true) (fun z => .bl z.2) rfl rfl (by omega) (fun z hz Hc u => ?_) (fun D H' nw => ?_)
        · refine x_tp (tn0 fun X' s c => ?_)
          obtain ⟨k, h1, h2⟩ := i z hz
          have kc : Kc Hc z.1 k := ⟨h1.up u.ex⟩
          leaf_len
          exact x_end (by rw [h2])
        · rw [filter_true, show (fun z : V × Bool => V.bl z.2) = V.bl ∘ Prod.snd from rfl, ← List.map_map] at nw
          leaf_len
          refine iteY (by rw [f]; rfl) ?_
          leaf_len
          exact q _ ⟨Exs.ex⟩
      | @num o ns e h l f =>
        subst e
        have hA : At H1 o (.lst (ns.map V.int)) := ⟨h⟩
        leaf_len
        refine e_lc1 3 r_ordered_0 g_ordered_0 (by decide +kernel) (i_list ?_)
        leaf_len
        refine y_src ?_
        refine lcL ns V.int (fun _ => true) (fun _ => .bl true) rfl rfl (by omega) (fun z hz Hc u => ?_) (fun D H' nw => ?_)
        · refine x_tp (tn0 fun X' s c => ?_)
          leaf_len
          exact x_end rfl
        rw [filter_true] at nw
        leaf_len
        refine iteF' (by rw [all_const]; rfl) ?_
        leaf_len
        refine y_sorted (by omega) fun ms p H2 hp2 hs nw2 => ?_
        leaf_len
        rw [List.length_map]
        refine ⟨_, rfl, by omega, by omega, fun p3 H3 nw3 => ?_⟩
        have ne : ms ≠ (List.range ((rs.length : Int)).toNat).map fun (k : Nat) => (k : Int) := fun z => by
          rcases f with f | ⟨k, hk, f⟩
          · have := hp2.length_eq
            rw [z, List.length_map, List.length_range] at this
            omega
          · refine f (hp2.mem_iff.mp ?_)
            rw [z]
            exact List.mem_map.mpr ⟨k, List.mem_range.mpr (by omega), rfl⟩
        refine y_neD (List Int) ?_
        leaf_len
        exact q _ ⟨Exs.ex⟩
  show sB X _ _ [some (.int m), some (.ref a), some (.ref o), none, none] H
  have hL : LL H a [] [] := ⟨hA.h, .nil⟩
  leaf_len
  refine x_cardsX hm ⟨by decide, by simp⟩ fun H1 u1 => ?_
  leaf_len
  refine e_lc1 3 r_ordered_0 g_ordered_0 (by decide +kernel) (i_list ?_)
  leaf_len
  refine y_src ?_
  refine lcL ([] : List Int) V.int (fun _ => true) (fun _ => .bl true) rfl rfl (by decide) (fun n hn Hc u => absurd hn (List.not_mem_nil)) (fun D H' nw => ?_)
  rw [filter_true] at nw
  leaf_len
  refine y_sorted (ns := []) (by decide) fun ms p H2 hp2 hs nw2 => ?_
  obtain rfl := List.Perm.eq_nil hp2
  leaf_len
  refine ⟨_, rfl, by decide, by decide, fun p3 H3 nw3 => ?_⟩
  refine y_neD (List Int) ?_
  leaf_len
  refine e_lc1 4 r_ordered_1 g_ordered_1 (by decide +kernel) (i_list ?_)
  leaf_len
  refine y_src ?_
  refine lcL ([] : List Int) V.int (fun _ => true) (fun _ => .bl true) rfl rfl (by decide) (fun n hn Hc u => absurd hn (List.not_mem_nil)) (fun D H' nw => ?_)
  exact q D H' (nw.pre Exs.ex)
/-- fewest: refused, or (16, 1) -/
def spFewR (cM cL : Addr) : Sp := fun vs H Q E => (vs = [.int 16, .int 1] ∧ ∀ H', Up H H' → Q (.int 7) H') ∨ spR (RFew cM cL) vs H Q E
theorem k_fewestR (F : Df K mg "fewest" s_fewest p_fewest) (hB : ∀ y ∈ bl, mg y = none) (gM : Gm mg "MOST" (.int 16)) (kW : Kn P w K mg base 1 "is_whole" p_is_whole spWhole) (kF : Kn P w K mg base 1 "fewest_of" p_fewest_of spFewOf) (xM : XkM K mg "BadMany" cM) (xL : XkM K mg "BadLies" cL) : Kn P w K mg base 4 "fewest" p_fewest (spFewR cM cL) := by
  refine okd F d_fewest hB (fun vs H Q E h => by rcases h with ⟨e, _⟩ | ⟨C, h, _⟩; (rw [e]; rfl); (cases h <;> rfl)) fun X bd C vs H Q E tk h => ?_
  have t0 : Tk X (fun cls d _ H => E cls d H) := ⟨tk⟩
  have x0 := bd.xk xM
  have x1 := bd.xk xL
  have f1 := bd.fk kW (by decide)
  have f2 := bd.fk kF (by decide)
  have g1 := bd.gv gM
  have ru := bd.ru
  rcases h with ⟨rfl, q⟩ | ⟨D, h, q⟩
  · show sB X _ _ [some (.int 16), some (.int 1)] H
    leaf_len
    refine y_niT rfl ?_
    leaf_len
    refine x_fewOf (.inr ⟨rfl, by decide, by decide⟩) fun f hf => ?_
    rw [hf.o rfl]
    exact q _ ⟨Exs.ex⟩
  · cases h with
    | @many vm v1 h =>
      show sB X _ _ [some vm, some v1] H
      cases h with
      | kd h n =>
        leaf_len
        refine x_wholeN h n ?_
        leaf_len
        exact q _ ⟨Exs.ex⟩
      | @num i e h =>
        subst e
        leaf_len
        one_sign
        exact q _ ⟨Exs.ex⟩
    | @lies m v1 h n =>
      show sB X _ _ [some (.int m), some v1] H
      cases n with
      | kd h n =>
        leaf_len
        one_sign
        refine x_wholeN h n ?_
        leaf_len
        exact q _ ⟨Exs.ex⟩
      | @num i e h =>
        subst e
        leaf_len
        one_sign
        refine y_niT rfl ?_
        leaf_len
        refine iteY (by rw [inV_two h]; rfl) ?_
        leaf_len
        exact q _ ⟨Exs.ex⟩
    | @most m h =>
      show sB X _ _ [some (.int m), some (.int 1)] H
      leaf_len
      one_sign
      refine y_niT rfl ?_
      leaf_len
      exact q _ ⟨Exs.ex⟩
end
/-! ### k06: _law_refused, _law_all -/
structure Es where
  e : Addr
  m : Addr
  c : Addr
  n : Addr
  s : Addr
  l : Addr
  b : Addr
  o : Addr
  t : Addr
/-- an error of C is the d-th of the eight kinds alone -/
structure ErrAt (K : PySem.W.Frag) (es : Es) (d : Nat) (C : Addr) : Prop where
  ec : ExcC K C
  em : PySem.W.exmOne K (.ref C) (.ref es.e) = some true
  k0 : Ke K C (.ref es.m) (decide (d = 0))
  k1 : Ke K C (.ref es.c) (decide (d = 1))
  k2 : Ke K C (.ref es.n) (decide (d = 2))
  k3 : Ke K C (.ref es.s) (decide (d = 3))
  k4 : Ke K C (.ref es.l) (decide (d = 4))
  k5 : Ke K C (.ref es.b) (decide (d = 5))
  k6 : Ke K C (.ref es.o) (decide (d = 6))
  k7 : Ke K C (.ref es.t) (decide (d = 7))
  kv : Ke K C (.ty "ValueError") true
  lt : d < 8
/-- the names of the classes -/
structure EsG (mg : Str → Option Value) (es : Es) : Prop where
  e : mg "CardError" = some (.ref es.e)
  m : Gm mg "BadMany" (.ref es.m)
  c : Gm mg "BadCards" (.ref es.c)
  n : Gm mg "BadNumber" (.ref es.n)
  s : Gm mg "BadSaid" (.ref es.s)
  l : Gm mg "BadLies" (.ref es.l)
  b : Gm mg "BadBase" (.ref es.b)
  o : Gm mg "BadOrder" (.ref es.o)
  t : Gm mg "TooMany" (.ref es.t)
def spRef (P : Program) (w : World) (K : PySem.W.Frag) (mg : Str → Option Value) (base : Heap) (es : Es) : Sp := fun vs H Q _ => ∃ (f : Addr) (v : V) (d : Nat) (C : Addr) (Bad : Hp → V → Prop), vs = [.ref f, v, .int (d : Nat)] ∧ Ask P w K mg base H f Bad C ∧ Bad H v ∧ ErrAt K es d C ∧ ∀ H', Up H H' → Q (.bl true) H'
def spRefG (P : Program) (w : World) (K : PySem.W.Frag) (mg : Str → Option Value) (base : Heap) (es : Es) (cl : List (Str × Addr)) (fr : List Str) (ws : List (Option V)) : Sp := fun vs H Q _ => ∃ (f : Addr) (v : V) (d : Nat) (C : Addr) (Bad : Hp → V → Prop) (F : NdefX.NF) (b : Expr), vs = [.ref f, v, .int (d : Nat)] ∧ H f = some (LamO f F b) ∧ H F.c = some (LamX.CodeO F.c F.qual) ∧ F.cl = cl ∧ LamOk P w K mg base 5 f F b fr (fun ws' vs H Q E => ws' = ws ∧ spBad Bad C vs H Q E) ∧ Bad H v ∧ ErrAt K es d C ∧ ∀ H', Up H H' → Q (.bl true) H'
theorem all_kinds {d : Nat} (h : d < 8) : ([decide (d = 0), decide (d = 1), decide (d = 2)] ++ [decide (d = 3), decide (d = 4), decide (d = 5)] ++ [decide (d = 6), decide (d = 7), true]) = ((List.range 8).map fun (i : Nat) => decide ((i : Int) = (d : Int))) ++ [true] := by
  match d, h with
  | 0, _ => decide
  | 1, _ => decide
  | 2, _ => decide
  | 3, _ => decide
  | 4, _ => decide
  | 5, _ => decide
  | 6, _ => decide
  | 7, _ => decide
theorem x_cm {X : Cx} {x : Str} {C : Addr} (h : Gl X x) (h2 : (x == ("__debug__" : Str)) = false) (h3 : X.mg x = some (.ref C)) : Names X x (.ref C) := ⟨h, h2, .inl h3⟩
section
variable {P : Program} {w : World} {K : PySem.W.Frag} {mg : Str → Option Value} {base : Heap} {es : Es}
theorem k_law_refused (F : Df K mg "_law_refused" s_law_refused p_law_refused) (hB : ∀ y ∈ bl, mg y = none) (g : EsG mg es) :
    Kn P w K mg base 6 "_law_refused" p_law_refused (spRef P w K mg base es) := by
  refine okd F d_law_refused hB (fun vs H Q E ⟨f, v, d, C, Bad, e, _⟩ => by rw [e]; rfl) fun X bd C vs H Q E tk h => ?_
  obtain ⟨f, v, d, D, Bad, rfl, ask, bad, er, q⟩ := h
  have t0 : Tk X (fun cls d _ H => E cls d H) := ⟨tk⟩
  have ru := bd.ru
  have g0 := bd.gv g.m
  have g1 := bd.gv g.c
  have g2 := bd.gv g.n
  have g3 := bd.gv g.s
  have g4 := bd.gv g.l
  have g5 := bd.gv g.b
  have g6 := bd.gv g.o
  have g7 := bd.gv g.t
  have eK := bd.K
  have kk0 : Ke X.K D (.ref es.m) (decide (d = 0)) := by rw [eK]; exact er.k0
  have kk1 : Ke X.K D (.ref es.c) (decide (d = 1)) := by rw [eK]; exact er.k1
  have kk2 : Ke X.K D (.ref es.n) (decide (d = 2)) := by rw [eK]; exact er.k2
  have kk3 : Ke X.K D (.ref es.s) (decide (d = 3)) := by rw [eK]; exact er.k3
  have kk4 : Ke X.K D (.ref es.l) (decide (d = 4)) := by rw [eK]; exact er.k4
  have kk5 : Ke X.K D (.ref es.b) (decide (d = 5)) := by rw [eK]; exact er.k5
  have kk6 : Ke X.K D (.ref es.o) (decide (d = 6)) := by rw [eK]; exact er.k6
  have kk7 : Ke X.K D (.ref es.t) (decide (d = 7)) := by rw [eK]; exact er.k7
  have kkv : Ke X.K D (.ty "ValueError") true := by rw [eK]; exact er.kv
  obtain ⟨F, b, a1, a2, a3, a4⟩ := ask.ex
  obtain ⟨z1, z2, _⟩ := C.glo "CardError" (by simp)
  show sB X _ _ [some (.ref f), some v, some (.int (d : Nat)), none, none, none] H
  refine b_try (i := 3) (c := .ref es.e) bd.stk bd.frm rfl (by decide +kernel) (x_cm z1 z2 (by rw [bd.mg]; exact g.e)) fun X1 s1 c1 t1 po1 => ?_
  refine b_expr ?_
  have ok : LamOk X1.prog X1.w X1.K X1.mg X1.base 5 f F b [] (fun _ => spBad Bad D) := by
    rw [s1.pr, s1.w, s1.K, s1.mg, s1.base, bd.pr, bd.w, bd.K, bd.mg, bd.base]
    exact a4
  refine e_ask ok (by rw [s1.un]; exact bd.rm) [] ?_ (hf0 := a1)
  refine e_var ?_
  refine ⟨a1, a2, fun pins s I => by rw [a3]; exact cells_nil, v, rfl, bad, fun H1 u1 => ?_⟩
  refine x_catch rfl (by have := C.nd; rw [C.nm] at this; exact this) (by rw [eK]; exact er.em) (by rw [eK]; exact er.ec) fun e X2 he s2 c2 ee hc => ?_
  refine x_tp ?_
  leaf_len
  refine y_cat (by exact (show 3 + 3 ≤ 100000 by decide)) fun p1 G1 n1 => ?_
  leaf_len
  refine y_cat (by exact (show 6 + 3 ≤ 100000 by decide)) fun p2 G2 n2 => ?_
  leaf_len
  refine e_lcH 5 r_law_refused_0 g_law_refused_0 (by decide +kernel) ?_
  leaf_len
  refine ⟨8, fun i => .bl (decide ((i : Int) = (d : Int))), rfl, by decide, fun i hi X' Hc s' c' ex => x_tp ?_, fun p3 G3 n3 => ?_⟩
  · leaf_len
    exact ⟨rfl, rfl⟩
  leaf_len
  rename_i p4 G4 n4
  refine y_cat (by exact (show 8 + 1 ≤ 100000 by decide)) fun p5 G5 n5 => ?_
  have b1 : At G5 p2 (.lst (([decide (d = 0), decide (d = 1), decide (d = 2)] ++ [decide (d = 3), decide (d = 4), decide (d = 5)] ++ [decide (d = 6), decide (d = 7), true]).map V.bl)) := inferInstanceAs (At G5 p2 (.lst _))
  have b2 : At G5 p5 (.lst ((((List.range 8).map fun (i : Nat) => decide ((i : Int) = (d : Int))) ++ [true]).map V.bl)) := ⟨n5.at_⟩
  refine y_eqD (List Bool) ?_
  rw [decide_eq_true (all_kinds er.lt)]
  exact q _ ⟨Exs.ex⟩
theorem k_law_refusedG (cl : List (Str × Addr)) (fr : List Str) (ws : List (Option V)) (F : Df K mg "_law_refused" s_law_refused p_law_refused) (hB : ∀ y ∈ bl, mg y = none) (g : EsG mg es) :
    KnG P w K mg base 6 "_law_refused" p_law_refused (CellG cl fr ws) (spRefG P w K mg base es cl fr ws) := by
  refine okdG F d_law_refused hB (fun vs H Q E ⟨f, v, d, C, Bad, F, b, e, _⟩ => by rw [e]; rfl) fun X bd C vs H Q E t0 a0 h => ?_
  obtain ⟨f, v, d, D, Bad, F, b, rfl, a1, a2, a3, a4, bad, er, q⟩ := h
  have ru := bd.ru
  have g0 := bd.gv g.m
  have g1 := bd.gv g.c
  have g2 := bd.gv g.n
  have g3 := bd.gv g.s
  have g4 := bd.gv g.l
  have g5 := bd.gv g.b
  have g6 := bd.gv g.o
  have g7 := bd.gv g.t
  have eK := bd.K
  have kk0 : Ke X.K D (.ref es.m) (decide (d = 0)) := by rw [eK]; exact er.k0
  have kk1 : Ke X.K D (.ref es.c) (decide (d = 1)) := by rw [eK]; exact er.k1
  have kk2 : Ke X.K D (.ref es.n) (decide (d = 2)) := by rw [eK]; exact er.k2
  have kk3 : Ke X.K D (.ref es.s) (decide (d = 3)) := by rw [eK]; exact er.k3
  have kk4 : Ke X.K D (.ref es.l) (decide (d = 4)) := by rw [eK]; exact er.k4
  have kk5 : Ke X.K D (.ref es.b) (decide (d = 5)) := by rw [eK]; exact er.k5
  have kk6 : Ke X.K D (.ref es.o) (decide (d = 6)) := by rw [eK]; exact er.k6
  have kk7 : Ke X.K D (.ref es.t) (decide (d = 7)) := by rw [eK]; exact er.k7
  have kkv : Ke X.K D (.ty "ValueError") true := by rw [eK]; exact er.kv
  obtain ⟨z1, z2, _⟩ := C.glo "CardError" (by simp)
  show sB X _ _ [some (.ref f), some v, some (.int (d : Nat)), none, none, none] H
  refine b_tryG (i := 3) (c := .ref es.e) bd.stk bd.frm rfl (by decide +kernel) (x_cm z1 z2 (by rw [bd.mg]; exact g.e)) fun X1 s1 sam c1 t1 po1 => ?_
  refine b_expr ?_
  have ok : LamOk X1.prog X1.w X1.K X1.mg X1.base 5 f F b fr (fun ws' vs H Q E => ws' = ws ∧ spBad Bad D vs H Q E) := by
    rw [s1.pr, s1.w, s1.K, s1.mg, s1.base, bd.pr, bd.w, bd.K, bd.mg, bd.base]
    exact a4
  refine e_ask ok (by rw [s1.un]; exact bd.rm) ws ?_ (hf0 := a1)
  refine e_var ?_
  refine ⟨a1, a2, fun pins s I => by rw [a3]; exact CellG.later a0 sam pins s I, rfl, v, rfl, bad, fun H1 u1 => ?_⟩
  refine x_catch rfl (by have := C.nd; rw [C.nm] at this; exact this) (by rw [eK]; exact er.em) (by rw [eK]; exact er.ec) fun e X2 he s2 c2 ee hc => ?_
  refine x_tp ?_
  leaf_len
  refine y_cat (by exact (show 3 + 3 ≤ 100000 by decide)) fun p1 G1 n1 => ?_
  leaf_len
  refine y_cat (by exact (show 6 + 3 ≤ 100000 by decide)) fun p2 G2 n2 => ?_
  leaf_len
  refine e_lcH 5 r_law_refused_0 g_law_refused_0 (by decide +kernel) ?_
  leaf_len
  refine ⟨8, fun i => .bl (decide ((i : Int) = (d : Int))), rfl, by decide, fun i hi X' Hc s' c' ex => x_tp ?_, fun p3 G3 n3 => ?_⟩
  · leaf_len
    exact ⟨rfl, rfl⟩
  leaf_len
  rename_i p4 G4 n4
  refine y_cat (by exact (show 8 + 1 ≤ 100000 by decide)) fun p5 G5 n5 => ?_
  have b1 : At G5 p2 (.lst (([decide (d = 0), decide (d = 1), decide (d = 2)] ++ [decide (d = 3), decide (d = 4), decide (d = 5)] ++ [decide (d = 6), decide (d = 7), true]).map V.bl)) := inferInstanceAs (At G5 p2 (.lst _))
  have b2 : At G5 p5 (.lst ((((List.range 8).map fun (i : Nat) => decide ((i : Int) = (d : Int))) ++ [true]).map V.bl)) := ⟨n5.at_⟩
  refine y_eqD (List Bool) ?_
  rw [decide_eq_true (all_kinds er.lt)]
  exact q _ ⟨Exs.ex⟩
end
/-! ### k02: what is told is right -/
/-- what judged has told -/
inductive JA (cT cL : Addr) (H : Hp) (x : Addr) (cs : List (List Int)) (m l : Int) : Prop where
  | tells {dx : Addr} (h : At H x (.ins cT dx [])) (e : tellsP cs m l = true)
  | alike {dx : Addr} {i j : Int} (h : At H x (.ins cL dx [("one", .int i), ("other", .int j)])) (e : tellsP cs m l = false) (e2 : alikeP cs m l i j = true)
section
variable {cT cL x : Addr} {H H' : Hp} {cs : List (List Int)} {m l : Int} {Q : VK}
theorem JA.up (h : JA cT cL H x cs m l) (u : Up H H') : JA cT cL H' x cs m l := by
  cases h with
  | tells h e => exact .tells inferInstance e
  | alike h e e2 => exact .alike inferInstance e e2
theorem jq (q : ∀ x H', Up H H' → H x = none → JA cT cL H' x cs m l → Q (.ref x) H') : JudgedQ cT cL cs m l H Q := ⟨fun e x dx H1 H' u n => q x H' ⟨u.ex.trans n.ex⟩ (Evl.fresh_back u.ex n.fr) (.tells inferInstance e), fun e i j x dx H1 H' e2 u n => q x H' ⟨u.ex.trans n.ex⟩ (Evl.fresh_back u.ex n.fr) (.alike inferInstance e e2)⟩
end
/-- what told has told -/
inductive TA (cH cO cN : Addr) (B H : Hp) (x : Addr) (cs : List (List Int)) (m : Int) (sd : List Bool) (l : Int) : Prop where
  | nobody {dx : Addr} (h : At H x (.ins cN dx [])) (e : nearP cs m sd l = [])
  | open_ {dx : Addr} {i j : Int} {r : List Int} (h : At H x (.ins cO dx [("one", .int i), ("other", .int j)])) (e : nearP cs m sd l = i :: j :: r)
  | thought {dx c : Addr} {n : Int} (h : At H x (.ins cH dx [("number", .int n), ("cards", .ref c)])) (hc : At H c (.lst ((wrongP cs n sd).map V.int))) (fr : B c = none) (e : nearP cs m sd l = [n])
section
variable {cT cL cH cO cN x : Addr} {H H' : Hp} {cs : List (List Int)} {m l : Int} {sd : List Bool} {Q : VK}
theorem TA.up {B : Hp} (h : TA cH cO cN B H x cs m sd l) (u : Up H H') : TA cH cO cN B H' x cs m sd l := by
  cases h with
  | nobody h e => exact .nobody inferInstance e
  | open_ h e => exact .open_ inferInstance e
  | thought h hc fr e => exact .thought inferInstance inferInstance fr e
theorem tq (q : ∀ x H', Up H H' → H x = none → TA cH cO cN H H' x cs m sd l → Q (.ref x) H') : ToldQ cH cO cN cs m sd l H Q := ⟨fun e x dx H1 H' u n => q x H' ⟨u.ex.trans n.ex⟩ (Evl.fresh_back u.ex n.fr) (.nobody inferInstance e), fun i j r e x dx H1 H' u n => q x H' ⟨u.ex.trans n.ex⟩ (Evl.fresh_back u.ex n.fr) (.open_ inferInstance e),
  fun n e x dx p H1 H2 H' u n1 n2 => q x H' ⟨(u.ex.trans n1.ex).trans n2.ex⟩ (Evl.fresh_back (u.ex.trans n1.ex) n2.fr) (.thought inferInstance inferInstance (Evl.fresh_back u.ex n1.fr) e)⟩
end
/-! ### k09: _law_says, _law_made_right -/
theorem few_2 {p : Nat} : Few0 (2 ^ p) p := ⟨Int.le_refl _, fun g hg => by
  have h1 := pow_mono2 (show g + 1 ≤ p from hg)
  have h2 : (2 : Int) ^ (g + 1) = 2 ^ g * 2 := Int.pow_succ 2 g
  have h3 : (0 : Int) < 2 ^ g := Int.pow_pos (by decide)
  omega⟩
theorem few_21 {p : Nat} : Few0 (2 ^ p + 1) (p + 1) := ⟨by
  have h2 : (2 : Int) ^ (p + 1) = 2 ^ p * 2 := Int.pow_succ 2 p
  have h3 : (0 : Int) < 2 ^ p := Int.pow_pos (by decide)
  omega, fun g hg => by
  have h1 := pow_mono2 (show g ≤ p by omega)
  omega⟩
theorem few_30 : Few0 1000000000000000000000000000000 100 := ⟨by decide +kernel, fun g hg => by
  have h1 := pow_mono2 (show g ≤ 99 by omega)
  have h2 : (2 : Int) ^ 99 < 1000000000000000000000000000000 := by decide +kernel
  omega⟩
theorem bt_2 {p : Nat} (h : p < 300) : Bt 2000000 (2 ^ p) := by
  refine Bt.mono (b := p + 1) ?_ (by omega)
  show ((2 : Int) ^ p).natAbs < 2 ^ (p + 1)
  rw [Int.natAbs_pow]
  exact Nat.pow_lt_pow_right (by decide) (by omega)
theorem bt_21 {p : Nat} (h : p < 300) : Bt 2000000 (2 ^ p + 1) := Bt.mono (b := 1000 + 1) (Bt.add (b := 1000) (Bt.mono (b := p + 1) (by
  show ((2 : Int) ^ p).natAbs < 2 ^ (p + 1)
  rw [Int.natAbs_pow]
  exact Nat.pow_lt_pow_right (by decide) (by omega)) (by omega)) (Bt.of _ (by decide) (by decide))) (by decide)
theorem pair_rep {H : Hp} {r : Addr} {c : List Int} (h : H r = some (.lst (c.map V.int))) : ∀ n : Nat, Paired (fun r c => H r = some (.lst (c.map V.int))) (List.replicate n r) (List.replicate n c)
  | 0 => .nil
  | n + 1 => .cons h (pair_rep h n)
theorem made_1 {b : Int} (h : 2 ≤ b ∧ b ≤ 16) : madeP 1 b = [] := of_decide_eq_true (all_mb (F := fun _ b => decide (madeP 1 b = [])) (by decide +kernel) (m := 1) (by decide) h)
def spPlaces : Sp := fun vs H Q _ => ∃ p : Int, vs = [.int p] ∧ 0 ≤ p ∧ p < 300 ∧ ∀ H', Up H H' → Q (.bl true) H'
theorem x_places {H : Hp} {Q : VK} {E : XK} {p : Int} (h : 0 ≤ p ∧ p < 300) (q : ∀ H', Up H H' → Q (.bl true) H') : spPlaces [.int p] H Q E := ⟨p, rfl, h.1, h.2, q⟩
section
variable {P : Program} {w : World} {K : PySem.W.Frag} {mg : Str → Option Value} {base : Heap} {cA cT cL cH cO cN : Addr} {es : Es}
theorem k_law_says (F : Df K mg "_law_says" s_law_says p_law_says) (hB : ∀ y ∈ bl, mg y = none) : Kn P w K mg base 1 "_law_says" p_law_says spSays := by
  refine okd F d_law_says hB (fun vs H Q E ⟨a, b, e, _⟩ => by rw [e]; rfl) fun X bd C vs H Q E tk h => ?_
  obtain ⟨a, b, rfl, q⟩ := h
  have ru := bd.ru
  show sB X _ _ [some (.bl a), some (.bl b)] H
  leaf_len
  exact q
theorem k_law_made_right (F : Df K mg "_law_made_right" s_law_made_right p_law_made_right) (hB : ∀ y ∈ bl, mg y = none) (kM : Kn P w K mg base 3 "made" p_made spMade) (kF : Kn P w K mg base 2 "fewest" p_fewest spFewest) : Kn P w K mg base 5 "_law_made_right" p_law_made_right spPlaces := by
  refine okd F d_law_made_right hB (fun vs H Q E ⟨p, e, _⟩ => by rw [e]; rfl) fun X bd C vs H Q E tk h => ?_
  obtain ⟨pl, rfl, h0, h1, q⟩ := h
  have f1 := bd.fk kM (by decide)
  have f2 := bd.fk kF (by decide)
  have ru := bd.ru
  have po := bd.po
  show sB X _ _ [some (.int pl), none, none, none, none, none] H
  leaf_len
  rename_i p1 H1 n1 p2 H2 n2 p3 H3 n3 p4 H4 n4
  refine ⟨9, 16, rfl, rfl, by decide, fun p5 H5 n5 => ?_⟩
  leaf_len
  rename_i p6 H6 n6 p7 H7 n7
  have r5 : At H7 p5 (.lst ([9, 10, 11, 12, 13, 14, 15].map V.int)) := ⟨n7.ex _ _ (n6.ex _ _ n5.at_)⟩
  have l7 : LL H7 p7 [p1, p2, p3, p4, p5, p6] [[1, 4, 7, 10, 13], [2, 5, 8, 11, 14], [3, 4, 5, 12, 13, 14], [6, 7, 8, 15], [9, 10, 11, 12, 13, 14, 15], []] := by
    have z1 : At H7 p1 (.lst [V.int 1, V.int 4, V.int 7, V.int 10, V.int 13]) := inferInstance
    have z2 : At H7 p2 (.lst [V.int 2, V.int 5, V.int 8, V.int 11, V.int 14]) := inferInstance
    have z3 : At H7 p3 (.lst [V.int 3, V.int 4, V.int 5, V.int 12, V.int 13, V.int 14]) := inferInstance
    have z4 : At H7 p4 (.lst [V.int 6, V.int 7, V.int 8, V.int 15]) := inferInstance
    have z6 : At H7 p6 (.lst []) := inferInstance
    exact ⟨n7.at_, .cons z1.h (.cons z2.h (.cons z3.h (.cons z4.h (.cons r5.h (.cons z6.h .nil)))))⟩
  refine x_made (by decide) (by decide) fun q1 rs1 G1 nl1 => ?_
  leaf_len
  refine x_made (by decide) (by decide) fun q2 rs2 G2 nl2 => ?_
  leaf_len
  rename_i a1 A1 m1 a2 A2 m2 b1 B1 o1 b2 B2 o2
  refine x_rep o2.at_ (by exact (show 1 * 14 ≤ 100000 by decide)) (by decide) (by decide) fun b3 B3 o3 => ?_
  refine y_cat (by exact (show 1 + 14 ≤ 100000 by decide)) fun b4 B4 o4 => ?_
  have l4 : LL B4 b4 (a1 :: List.replicate 14 b1) ([1] :: List.replicate 14 []) := by
    have z1 : At B4 a1 (.lst [V.int 1]) := inferInstance
    have z2 : At B4 b1 (.lst []) := inferInstance
    exact ⟨o4.at_, .cons z1.h (pair_rep (c := []) z2.h 14)⟩
  refine y_neD (List (List Int)) ?_
  leaf_len
  refine x_made (by decide) (by omega) fun q3 rs3 G3 nl3 => ?_
  leaf_len
  refine iteNn (made_1 (by omega)) ?_
  leaf_len
  refine x_made (by decide) (by decide) fun q4 rs4 G4 nl4 => ?_
  refine e_lc1 4 r_law_made_right_0 g_law_made_right_0 (by decide +kernel) (i_r2 ?_)
  leaf_len
  refine y_r2 (by decide) ?_
  refine lcRN (fun _ => true) (fun k => [.int (1 + (k : Int))]) rfl (by decide) (fun k hk Hc u => ?_) (fun D ps H' nw => ?_)
  · refine x_tp (tm0 fun X' s c => ?_)
    leaf_len
    rename_i a1 A1 m1
    exact x_endN m1.fr rfl
  replace nw : NewLs G4 D ps (((List.range 15).map fun (k : Nat) => [1 + (k : Int)]).map fun c => c.map V.int) H' := by
    rw [filter_true] at nw
    rw [List.map_map]
    exact nw
  refine y_neD (List (List Int)) ?_
  leaf_len
  refine x_made (by decide) (by decide) fun q5 rs5 G5 nl5 => ?_
  leaf_len
  refine x_powO (by decide) ?_
  rw [show (10 : Int) ^ (30 : Int).toNat = 1000000000000000000000000000000 by decide]
  leaf_len
  refine x_fewest (.inl ⟨rfl, by decide, Bt.mono (b := 100) (show (1000000000000000000000000000000 : Int).natAbs < 2 ^ 100 by decide +kernel) (by decide)⟩) fun k1 H8 u8 fi => ?_
  obtain ⟨kk, rfl, fz⟩ := fi.z rfl
  obtain rfl := fz.uniq few_30
  leaf_len
  have ex8 : Ex H H8 := Exs.ex
  refine b_forR ?_
  leaf_len
  refine ⟨pl, rfl, by omega, by omega, fun i σ' H' => ∃ y, σ' = [some (.int pl), some (.ref p7), some (.int (2 ^ i)), y, none, none] ∧ H' = H8, ⟨_, rfl, rfl⟩, ?_, ?_⟩
  · rintro i σ' H' hi ⟨y, rfl, rfl⟩
    refine x_tp ?_
    leaf_len
    exact ⟨_, by rw [Int.pow_succ, Int.mul_comm], rfl⟩
  · rintro σ' H' ⟨y, rfl, rfl⟩
    have hp : pl.toNat < 300 := by omega
    leaf_len
    refine x_fewest (.inl ⟨rfl, ?_, bt_2 hp⟩) fun k2 H9 u9 fi => ?_
    · have : (0 : Int) < 2 ^ pl.toNat := Int.pow_pos (by decide)
      omega
    obtain ⟨kk, rfl, fz⟩ := fi.z rfl
    obtain rfl := fz.uniq few_2
    leaf_len
    rw [decide_eq_true (show ((pl.toNat : Nat) : Int) = pl by omega)]
    leaf_len
    refine x_fewest (.inl ⟨rfl, ?_, bt_21 hp⟩) fun k3 H10 u10 fi => ?_
    · have : (0 : Int) < 2 ^ pl.toNat := Int.pow_pos (by decide)
      omega
    obtain ⟨kk, rfl, fz⟩ := fi.z rfl
    obtain rfl := fz.uniq few_21
    leaf_len
    rw [decide_eq_true (show (((pl.toNat + 1 : Nat) : Nat) : Int) = pl + 1 by omega)]
    leaf_len
    refine e_lc1 5 r_law_made_right_1 g_law_made_right_1 (by decide +kernel) (i_r2 ?_)
    leaf_len
    refine y_r2 (by decide) ?_
    refine lcR (fun _ => true) (fun k => .int (fewP (1 + (k : Int)))) rfl (by decide) (fun k hk Hc u => ?_) (fun D H' nw => ?_)
    · refine x_tp (tn0 fun X' s c => ?_)
      leaf_len
      have hk' : k < 16 := hk
      refine x_fewest (.inr ⟨rfl, by omega, by omega⟩) fun k4 H11 u11 fi => ?_
      rw [fi.o rfl]
      exact x_end rfl
    replace nw : New H10 D (.lst (((List.range 16).map fun (k : Nat) => fewP (1 + (k : Int))).map V.int)) H' := by
      rw [filter_true] at nw
      rw [List.map_map]
      exact nw
    leaf_len
    rename_i a1 A1 m1 a2 A2 m2
    refine x_rep m2.at_ (by exact (show 1 * 8 ≤ 100000 by decide)) (by decide) (by decide) fun a3 A3 m3 => ?_
    refine y_cat (by exact (show 8 + 8 ≤ 100000 by decide)) fun a4 A4 m4 => ?_
    have r4 : At A4 a4 (.lst ([0, 3, 5, 5, 6, 6, 6, 6, 7, 7, 7, 7, 7, 7, 7, 7].map V.int)) := ⟨m4.at_⟩
    refine y_eqD (List Int) ?_
    leaf_len
    rw [decide_eq_true (by decide)]
    exact q _ ⟨ex8.trans Exs.ex⟩
end
/-! ### k09: _law_lies_right -/
def spFar : Sp := fun vs H Q _ => ∃ p : Int, vs = [.int p] ∧ 0 ≤ p ∧ ∀ H', Up H H' → Q (.bl true) H'
theorem x_far {H : Hp} {Q : VK} {E : XK} {p : Int} (h : 0 ≤ p) (q : ∀ H', Up H H' → Q (.bl true) H') : spFar [.int p] H Q E := ⟨p, rfl, h, q⟩
theorem by3' {i : Nat} {v x : V} (h : [V.int 1, V.int 2, x][i]? = some v) {f : Int} (e : x = .int f) (hf : 3 ≤ f ∧ f ≤ 16) : ∃ b : Int, v = .int b ∧ 1 ≤ b ∧ b ≤ 16 := by
  match i, h with
  | 0, h => exact ⟨1, (Option.some.inj h).symm, by decide, by decide⟩
  | 1, h => exact ⟨2, (Option.some.inj h).symm, by decide, by decide⟩
  | 2, h => exact ⟨f, by rw [← e]; exact (Option.some.inj h).symm, by omega, by omega⟩
theorem unlike_le {a b : List Bool} : unlikeP a b ≤ (a.length : Int) := by
  unfold unlikeP
  have h1 := List.length_filter_le (fun p : Bool × Bool => !decide (p.1 = p.2)) (a.zip b)
  rw [List.length_zip] at h1
  omega
theorem near_all {cs : List (List Int)} {m l : Int} {sd : List Bool} (h : (cs.length : Int) ≤ l) : nearP cs m sd l = (List.range m.toNat).map fun (k : Nat) => (k : Int) := by
  unfold nearP
  rw [List.filter_eq_self.mpr fun k _ => decide_eq_true (by have := unlike_le (a := marksP cs (k : Int)) (b := sd); rw [marksP_len] at this; omega)]
theorem near_1 {cs : List (List Int)} {l : Int} {sd : List Bool} (h : (cs.length : Int) ≤ l) : nearP cs 1 sd l = [0] := near_all h
theorem near_2 {cs : List (List Int)} {m l : Int} {sd : List Bool} (h : (cs.length : Int) ≤ l) (hm : 2 ≤ m) : ∃ r, nearP cs m sd l = 0 :: 1 :: r := by
  rw [near_all h]
  obtain ⟨k, hk⟩ : ∃ k, m.toNat = k + 2 := ⟨m.toNat - 2, by omega⟩
  rw [hk, List.range_succ_eq_map, List.map_cons, List.range_succ_eq_map]
  exact ⟨_, rfl⟩
theorem tells_1 {cs : List (List Int)} {l : Int} : tellsP cs 1 l = true := tellsP_iff.mpr fun i j h1 h2 => by
  have h2 : j < 1 := h2
  omega
theorem tells_2 {cs : List (List Int)} {m l : Int} (h : (cs.length : Int) ≤ l) (hm : 2 ≤ m) : tellsP cs m l = false := tellsP_no (i := 0) (j := 1) (by decide) (by omega) (decide_eq_true (by have := unlike_le (a := marksP cs ((0 : Nat) : Int)) (b := marksP cs ((1 : Nat) : Int)); rw [marksP_len] at this; omega))
theorem ok_3 {m : Int} (h : 1 ≤ m ∧ m ≤ 16) : CardsOk m [[0], (List.range m.toNat).map fun (k : Nat) => (k : Int), []] := ⟨Nat.le_of_ble_eq_true rfl, fun c hc => by
  simp only [List.mem_cons, List.not_mem_nil, or_false] at hc
  rcases hc with rfl | rfl | rfl
  · exact ⟨by decide, fun n hn => by rw [List.mem_singleton.mp hn]; omega, by simp⟩
  · refine ⟨by rw [List.length_map, List.length_range]; omega, fun n hn => ?_, ?_⟩
    · obtain ⟨k, hk, rfl⟩ := List.mem_map.mp hn
      have := List.mem_range.mp hk
      omega
    · rw [List.pairwise_map]
      exact List.Pairwise.imp (fun h => by omega) (List.pairwise_lt_range)
  · exact ⟨by decide, by simp, by simp⟩⟩
section
variable {P : Program} {w : World} {K : PySem.W.Frag} {mg : Str → Option Value} {base : Heap} {cA cT cL cH cO cN : Addr} {es : Es}
theorem k_law_lies_right (F : Df K mg "_law_lies_right" s_law_lies_right p_law_lies_right) (hB : ∀ y ∈ bl, mg y = none) (an : Ans P w K mg base cA cT cL cH cO cN) (kM : Kn P w K mg base 4 "marks" p_marks spMarks) (kTo : Kn P w K mg base 4 "told" p_told (spTold cH cO cN)) (kJ : Kn P w K mg base 4 "judged" p_judged (spJudged cT cL)) : Kn P w K mg base 5 "_law_lies_right" p_law_lies_right spFar := by
  refine okd F d_law_lies_right hB (fun vs H Q E ⟨p, e, _⟩ => by rw [e]; rfl) fun X bd C vs H Q E tk h => ?_
  obtain ⟨far, rfl, h0, q⟩ := h
  have f1 := bd.fk kM (by decide)
  have f2 := bd.fk kTo (by decide)
  have f3 := bd.fk kJ (by decide)
  have ax := bd.ans an (by decide)
  have ru := bd.ru
  have po := bd.po
  show sB X _ _ [some (.int far), none, none, none, none, none, none, none, none, none, none, none, none] H
  leaf_len
  refine x_powO (by decide) ?_
  rw [show (10 : Int) ^ (30 : Int).toNat = 1000000000000000000000000000000 by decide]
  leaf_len
  refine b_forL ?_
  leaf_len
  rename_i L H1 nL
  refine ⟨L, _, rfl, SqL.of nL.at_, fun i σ' H' => ∃ y2 y3 y4 y5 y6 y7, σ' = [some (.int far), some (.int (1000000000000000000000000000000 + far)), y2, y3, y4, y5, y6, y7, none, none, none, none, none] ∧ Ex H1 H', ⟨_, _, _, _, _, _, rfl, Ex.refl _⟩, ?_, ?_, ?_⟩
  · rintro i σ' H' hi ⟨_, _, _, _, _, _, _, ex⟩
    exact SqL.of (ex _ _ nL.at_)
  · rintro i v σ' H' hv ⟨y2, y3, y4, y5, y6, y7, rfl, ex⟩
    obtain ⟨m, rfl, m1, m2⟩ := by3' hv rfl (f := 3 + far % 14) (by omega)
    have u1 : Up H1 H' := ⟨ex⟩
    refine x_tp ?_
    leaf_len
    refine b_tupW rfl ?_
    leaf_len
    rename_i p2 H2 n2
    refine ⟨m, rfl, by omega, by omega, fun p3 H3 n3 => ?_⟩
    leaf_len
    rename_i p4 H4 n4 p5 H5 n5 p6 H6 n6 p7 H7 n7
    generalize decide (far % 2 = 0) = b1 at n6
    generalize decide (far % 3 = 0) = b2 at n6
    have l7 : LL H7 p5 [p2, p3, p4] [[0], (List.range m.toNat).map fun (k : Nat) => (k : Int), []] := by
      have z1 : At H7 p2 (.lst [V.int 0]) := inferInstance
      have z2 : At H7 p3 (.lst (((List.range m.toNat).map fun (k : Nat) => (k : Int)).map V.int)) := inferInstance
      have z3 : At H7 p4 (.lst []) := inferInstance
      have z4 : At H7 p5 (.lst [V.ref p2, V.ref p3, V.ref p4]) := inferInstance
      exact ⟨z4.h, .cons z1.h (.cons z2.h (.cons z3.h .nil))⟩
    have sd7 : At H7 p6 (.lst ([b1, b2, true].map V.bl)) := ⟨n7.ex _ _ n6.at_⟩
    have ok := ok_3 (m := m) ⟨m1, m2⟩
    have e17 : Ex H1 H7 := ex.trans Exs.ex
    clear n2 n3 n4 n5 n6 n7
    refine b_lc2 11 12 r_law_lies_right_0 g_law_lies_right_0 (by decide +kernel) (by decide +kernel) (i_enum ?_)
    leaf_len
    refine x_marks (by omega) ok fun p8 H8 n8 => ?_
    refine y_enum ?_
    refine lcE (marksP [[0], (List.range m.toNat).map fun (k : Nat) => (k : Int), []] 0) V.bl (fun c => !decide (c.1 = [b1, b2, true].getD c.2 false)) (fun c => .int (c.2 : Nat)) rfl rfl rfl (by rw [marksP_len]; exact Nat.le_of_ble_eq_true rfl) (fun c hc Hc u => ?_) (fun p9 H9 n9 => ?_)
    · refine x_tp2 (tn1 fun X' s c' => ?_)
      leaf_len
      have hc2 : c.2 < 3 := by
        have z := List.snd_lt_of_mem_zipIdx hc
        rw [marksP_len] at z
        exact z
      refine y_ix (n := c.2) (v := .bl ([b1, b2, true].getD c.2 false)) (by rw [List.getElem?_map, List.getD_eq_getElem?_getD, List.getElem?_eq_getElem (show c.2 < [b1, b2, true].length from hc2)]; rfl) (by omega) ?_
      leaf_len
      refine x_tst rfl ?_
      intro _ X' s c
      leaf_len
      exact x_end rfl
    refine x_put ?_
    refine b_par2 (by decide +kernel) (by decide) rfl ?_
    leaf_len
    have hl : ((3 : Nat) : Int) ≤ 1000000000000000000000000000000 + far := by omega
    refine x_told (by show _ ∧ _ ∧ _ ∧ 3 = 3; omega) ok (tq fun xT HT uT fT jT => ?_)
    leaf_len
    refine x_judged (by omega) ok (jq fun xJ HJ uJ fJ jJ => ?_)
    refine x_p2 ?_
    by_cases hm : m = 1
    · subst hm
      have e9 : New H8 p9 (.lst ((wrongP [[0], (List.range (Int.toNat 1)).map fun (k : Nat) => (k : Int), []] 0 [b1, b2, true]).map V.int)) H9 := by
        have z : ((marksP [[0], (List.range (Int.toNat 1)).map fun (k : Nat) => (k : Int), []] 0).zipIdx.filter fun c => !decide (c.1 = [b1, b2, true].getD c.2 false)).map (fun c => V.int (c.2 : Nat)) = (wrongP [[0], (List.range (Int.toNat 1)).map fun (k : Nat) => (k : Int), []] 0 [b1, b2, true]).map V.int := by
          cases b1 <;> cases b2 <;> rfl
        rw [← z]
        exact n9
      clear n9
      have en := near_1 (cs := [[0], (List.range (Int.toNat 1)).map fun (k : Nat) => (k : Int), []]) (sd := [b1, b2, true]) hl
      have et := tells_1 (cs := [[0], (List.range (Int.toNat 1)).map fun (k : Nat) => (k : Int), []]) (l := 1000000000000000000000000000000 + far)
      cases jT.up uJ with
      | nobody h e => rw [en] at e; cases e
      | open_ h e => rw [en] at e; cases e
      | @thought dx c n h hc fr e =>
        rw [en] at e
        obtain rfl : (0 : Int) = n := (List.cons.inj e).1
        cases jJ with
        | alike h e e2 => rw [et] at e; cases e
        | tells hJ e =>
          leaf_len
          refine iteNn rfl ?_
          leaf_len
          exact ⟨_, _, _, _, _, _, rfl, e17.trans Exs.ex⟩
    · have hm2 : 2 ≤ m := by omega
      obtain ⟨r, en⟩ := near_2 (cs := [[0], (List.range m.toNat).map fun (k : Nat) => (k : Int), []]) (sd := [b1, b2, true]) hl hm2
      have et := tells_2 (cs := [[0], (List.range m.toNat).map fun (k : Nat) => (k : Int), []]) hl hm2
      have eo : openP [[0], (List.range m.toNat).map fun (k : Nat) => (k : Int), []] m [b1, b2, true] (1000000000000000000000000000000 + far) 0 1 = true := by
        unfold openP
        rw [en]
        simp
      cases jT.up uJ with
      | nobody h e => rw [en] at e; cases e
      | thought h hc fr e => rw [en] at e; cases e
      | @open_ dx i1 j1 r1 h e =>
        rw [en] at e
        obtain ⟨e1, e3⟩ := List.cons.inj e
        obtain ⟨e4, e5⟩ := List.cons.inj e3
        subst e1 e4
        clear e e3 e5
        cases jJ with
        | tells h e => rw [et] at e; cases e
        | alike hJ e e2 =>
          leaf_len
          refine e_meth cO ?_
          leaf_len
          refine x_meth rfl ?_
          leaf_len
          refine x_open (dx := dx) (by show 3 ≤ 1000 ∧ _; omega) fun HX uX => ?_
          rw [eo]
          leaf_len
          exact ⟨_, _, _, _, _, _, rfl, e17.trans Exs.ex⟩
  · rintro σ' H' ⟨y2, y3, y4, y5, y6, y7, rfl, ex⟩
    have u1 : Up H1 H' := ⟨ex⟩
    leaf_len
    refine b_par2 (by decide +kernel) (by decide) rfl ?_
    leaf_len
    rename_i p2 H2 n2 p3 H3 n3
    have ok0 : ∀ m : Int, CardsOk m [] := fun m => ⟨by decide, by simp⟩
    refine x_told (cs := []) (sd := []) (by decide) (ok0 1) (tq fun xT HT uT fT jT => ?_)
    leaf_len
    rename_i p4 H4 n4 p5 H5 n5
    refine x_told (cs := []) (sd := []) (by decide) (ok0 2) (tq fun xT2 HT2 uT2 fT2 jT2 => ?_)
    refine x_p2 ?_
    have e1 : nearP [] 1 [] 0 = [0] := by decide +kernel
    have e2 : nearP [] 2 [] 0 = [0, 1] := by decide +kernel
    cases jT.up (H' := HT2) ⟨(n4.ex.trans n5.ex).trans uT2.ex⟩ with
    | nobody h e => rw [e1] at e; cases e
    | open_ h e => rw [e1] at e; cases e
    | @thought dx c n h hc fr e =>
      rw [e1] at e
      obtain rfl : (0 : Int) = n := (List.cons.inj e).1
      cases jT2 with
      | nobody h e => rw [e2] at e; cases e
      | thought h hc fr e => rw [e2] at e; cases e
      | @open_ dx2 i1 j1 r1 h2 e =>
        rw [e2] at e
        obtain ⟨z1, z3⟩ := List.cons.inj e
        obtain ⟨z4, z5⟩ := List.cons.inj z3
        subst z1 z4
        clear e z3 z5
        replace hc : At HT2 c (.lst []) := hc
        leaf_len
        refine x_judged (cs := []) (by decide) (ok0 1) (jq fun xJ HJ uJ fJ jJ => ?_)
        have t1 : tellsP [] 1 9 = true := by decide +kernel
        have t2 : tellsP [] 2 0 = false := by decide +kernel
        cases jJ with
        | alike h e e2 => rw [t1] at e; cases e
        | tells hJ e =>
          leaf_len
          refine x_judged (cs := []) (by decide) (ok0 2) (jq fun xK HK uK fK jK => ?_)
          cases jK with
          | tells h e => rw [t2] at e; cases e
          | @alike dx3 i3 j3 hK e e2 =>
            have e3 : i3 = 0 ∧ j3 = 1 := by
              have z := of_decide_eq_true ((Bool.and_eq_true _ _).mp e2).1
              omega
            obtain ⟨rfl, rfl⟩ := e3
            leaf_len
            refine x_told (cs := [[0]]) (sd := [false]) (by decide) ⟨by decide, fun c hc => by rw [List.mem_singleton.mp hc]; exact ⟨by decide, by decide, by decide⟩⟩ (tq fun xM HM uM fM jM => ?_)
            have e4 : nearP [[0]] 1 [false] 0 = [] := by decide +kernel
            cases jM with
            | open_ h e => rw [e4] at e; cases e
            | thought h hc fr e => rw [e4] at e; cases e
            | nobody hM e =>
              leaf_len
              exact q _ ⟨Exs.ex⟩
end
/-! ### k09: answers by hand -/
section
variable {cH cO cN : Addr} {H H' : Hp} {x : Addr} {cs : List (List Int)} {m l : Int} {sd : List Bool} {r r' : Bool}
theorem ToldA.cast (h : ToldA cH cO cN H x cs m sd l r) (e : r = r') : ToldA cH cO cN H x cs m sd l r' := e ▸ h
theorem ToldA.up (h : ToldA cH cO cN H x cs m sd l r) (e : Ex H H') : ToldA cH cO cN H' x cs m sd l r := by
  cases h with
  | nobody h => exact .nobody ⟨e _ _ h.h⟩
  | open_ h => exact .open_ ⟨e _ _ h.h⟩
  | thought h hc => exact .thought ⟨e _ _ h.h⟩ ⟨e _ _ hc.h⟩
end
def spYes : Sp := fun vs H Q _ => vs = [] ∧ ∀ H', Up H H' → Q (.bl true) H'
theorem x_yes {H : Hp} {Q : VK} {E : XK} (q : ∀ H', Up H H' → Q (.bl true) H') : spYes [] H Q E := ⟨rfl, q⟩
def cs16 : List (List Int) := [[8, 9, 10, 11, 12, 13, 14, 15], [4, 5, 6, 7, 12, 13, 14, 15], [2, 3, 6, 7, 10, 11, 14, 15], [1, 3, 5, 7, 9, 11, 13, 15], [1, 2, 5, 6, 8, 11, 12, 15], [2, 3, 4, 5, 8, 9, 14, 15], [1, 2, 4, 7, 9, 10, 12, 15]]
theorem best_16 : bestL 16 1 = cs16 := by decide +kernel
theorem ok_16 : CardsOk 16 cs16 := ⟨by decide, fun c hc => by
  have z : ∀ c ∈ cs16, c.length ≤ 16 ∧ (∀ n ∈ c, 0 ≤ n ∧ n < 16) ∧ c.Pairwise (· < ·) := by decide +kernel
  obtain ⟨z1, z2, z3⟩ := z c hc
  exact ⟨z1, z2, z3⟩⟩
theorem marks_16 : marksP cs16 5 = [false, true, false, true, true, true, false] := by decide +kernel
/-- a row: an answer, and what is due -/
structure RowT (cH cO cN : Addr) (H : Hp) (cs : List (List Int)) (m : Int) (sd : List Bool) (l : Int) (v : V) : Prop where
  ex : ∃ (T x : Addr) (due : Bool), v = .ref T ∧ H T = some (.tup [.ref x, .bl due]) ∧ ToldA cH cO cN H x cs m sd l due
theorem RowT.up {cH cO cN : Addr} {H H' : Hp} {cs : List (List Int)} {m l : Int} {sd : List Bool} {v : V} (h : RowT cH cO cN H cs m sd l v) (e : Ex H H') : RowT cH cO cN H' cs m sd l v := by
  obtain ⟨T, x, due, h1, h2, h3⟩ := h.ex
  exact ⟨T, x, due, h1, e _ _ h2, h3.up e⟩
section
variable {cH cO cN : Addr} {H : Hp} {cs : List (List Int)} {m l n i j : Int} {sd : List Bool} {T x dx c : Addr} {due : Bool} {ws : List Int} {ys : List V}
theorem row_t (ws : List Int) [h : At H T (.tup [.ref x, .bl due])] [h1 : At H x (.ins cH dx [("number", .int n), ("cards", .ref c)])] [h2 : At H c (.lst ys)] (e : ys = ws.map V.int) (d : thoughtP cs m sd l n ws = due) : RowT cH cO cN H cs m sd l (.ref T) :=
  ⟨T, x, due, rfl, h.h, ToldA.cast (.thought h1 ⟨by rw [h2.h, e]⟩) d⟩
theorem row_o [h : At H T (.tup [.ref x, .bl due])] [h1 : At H x (.ins cO dx [("one", .int i), ("other", .int j)])] (d : openP cs m sd l i j = due) : RowT cH cO cN H cs m sd l (.ref T) := ⟨T, x, due, rfl, h.h, ToldA.cast (.open_ h1) d⟩
theorem row_n [h : At H T (.tup [.ref x, .bl due])] [h1 : At H x (.ins cN dx [])] (d : nobodyP cs m sd l = due) : RowT cH cO cN H cs m sd l (.ref T) := ⟨T, x, due, rfl, h.h, ToldA.cast (.nobody h1) d⟩
end
structure RowA (cL : Addr) (H : Hp) (cs : List (List Int)) (m l : Int) (v : V) : Prop where
  ex : ∃ (T x dx : Addr) (i j : Int), v = .ref T ∧ H T = some (.tup [.ref x, .bl (alikeP cs m l i j)]) ∧ At H x (.ins cL dx [("one", .int i), ("other", .int j)])
theorem RowA.up {cL : Addr} {H H' : Hp} {cs : List (List Int)} {m l : Int} {v : V} (h : RowA cL H cs m l v) (e : Ex H H') : RowA cL H' cs m l v := by
  obtain ⟨T, x, dx, i, j, h1, h2, h3⟩ := h.ex
  exact ⟨T, x, dx, i, j, h1, e _ _ h2, ⟨e _ _ h3.h⟩⟩
theorem row_a {cL : Addr} {H : Hp} {cs : List (List Int)} {m l i j : Int} {T x dx : Addr} {due : Bool} [h : At H T (.tup [.ref x, .bl due])] [h1 : At H x (.ins cL dx [("one", .int i), ("other", .int j)])] (d : alikeP cs m l i j = due) : RowA cL H cs m l (.ref T) := ⟨T, x, dx, i, j, rfl, by rw [d]; exact h.h, h1⟩
section
variable {P : Program} {w : World} {K : PySem.W.Frag} {mg : Str → Option Value} {base : Heap} {cA cT cL cH cO cN : Addr} {es : Es}
theorem k_law_hand_right (F : Df K mg "_law_hand_right" s_law_hand_right p_law_hand_right) (hB : ∀ y ∈ bl, mg y = none) (an : Ans P w K mg base cA cT cL cH cO cN) (kB : Kn P w K mg base 4 "best" p_best spBest) (kM : Kn P w K mg base 4 "marks" p_marks spMarks) (kTo : Kn P w K mg base 4 "told" p_told (spTold cH cO cN)) (kS : Kn P w K mg base 1 "_law_says" p_law_says spSays) : Kn P w K mg base 5 "_law_hand_right" p_law_hand_right spYes := by
  refine okd F d_law_hand_right hB (fun vs H Q E ⟨e, _⟩ => by rw [e]; rfl) fun X bd C vs H Q E tk h => ?_
  obtain ⟨rfl, q⟩ := h
  have f1 := bd.fk kB (by decide)
  have f2 := bd.fk kM (by decide)
  have f3 := bd.fk kTo (by decide)
  have f4 := bd.fk kS (by decide)
  have ax := bd.ans an (by decide)
  have ru := bd.ru
  have po := bd.po
  show sB X _ _ [none, none, none, none, none, none, none] H
  refine b_par2 (by decide +kernel) (by decide) rfl ?_
  leaf_len
  refine x_best (by decide) (.inr rfl) fun D rs H1 n1 => ?_
  rw [best_16] at n1
  leaf_len
  refine x_best (by decide) (.inr rfl) fun D2 rs2 H2 n2 => ?_
  rw [best_16] at n2
  leaf_len
  refine x_marks (by decide) ok_16 fun s H3 n3 => ?_
  rw [marks_16] at n3
  refine x_p2 ?_
  have l1 : LL H2 D rs cs16 := inferInstance
  have e02 : Ex H H2 := Exs.ex
  clear n1 n2
  leaf_len
  refine b_set ?_
  leaf_len
  refine y_ix (n := 1) (v := .bl true) rfl (by decide) ?_
  leaf_len
  refine ⟨s, _, 1, rfl, rfl, n3.at_, by decide, ?_⟩
  generalize hG : upd H3 s (.lst (List.set (List.map V.bl [false, true, false, true, true, true, false]) 1 (.bl (!true)))) = G
  have aS : At G s (.lst ([false, false, false, true, true, true, false].map V.bl)) := ⟨by rw [← hG]; exact upd_same⟩
  have e2G : Ex H2 G := by rw [← hG]; exact Ex.mut n3.ex n3.fr
  clear hG
  have uG : Up H2 G := ⟨e2G⟩
  have lG : LL G D rs cs16 := inferInstance
  leaf_len
  refine x_mkT fun x1 dx1 c1 A1 B1 m1 n1 => ?_
  leaf_len
  refine x_mkT fun x2 dx2 c2 A2 B2 m2 n2 => ?_
  leaf_len
  refine x_mkT fun x3 dx3 c3 A3 B3 m3 n3 => ?_
  leaf_len
  refine x_mkT fun x4 dx4 c4 A4 B4 m4 n4 => ?_
  leaf_len
  refine x_mkT fun x5 dx5 c5 A5 B5 m5 n5 => ?_
  leaf_len
  refine x_mkT fun x6 dx6 c6 A6 B6 m6 n6 => ?_
  leaf_len
  refine x_powO (by decide) ?_
  rw [show (10 : Int) ^ (20 : Int).toNat = 100000000000000000000 by decide]
  leaf_len
  refine x_mkT fun x7 dx7 c7 A7 B7 m7 n7 => ?_
  leaf_len
  refine y_cat (by exact (show 4 + 3 ≤ 100000 by decide)) fun q1 C1 o1 => ?_
  leaf_len
  refine x_mkT fun x8 dx8 c8 A8 B8 m8 n8 => ?_
  leaf_len
  refine x_ins cN [] rfl fun x9 dx9 B9 n9 => ?_
  leaf_len
  refine x_ins cO ["one", "other"] rfl fun x10 dx10 B10 n10 => ?_
  leaf_len
  refine x_ins cO ["one", "other"] rfl fun x11 dx11 B11 n11 => ?_
  leaf_len
  refine y_cat (by exact (show 7 + 4 ≤ 100000 by decide)) fun q2 C2 o2 => ?_
  leaf_len
  obtain ⟨rw0, hrw, rows⟩ : ∃ ys : List V, At C2 q2 (.lst ys) ∧ ∀ v ∈ ys, RowT cH cO cN C2 cs16 16 [false, false, false, true, true, true, false] 1 v := by
    refine ⟨_, ⟨o2.at_⟩, fun v hv => ?_⟩
    simp only [List.cons_append, List.nil_append, List.mem_cons, List.not_mem_nil, or_false] at hv
    rcases hv with rfl | rfl | rfl | rfl | rfl | rfl | rfl | rfl | rfl | rfl | rfl
    · exact row_t [1] rfl (by decide +kernel)
    · exact row_t [] rfl (by decide +kernel)
    · exact row_t [1, 1] rfl (by decide +kernel)
    · exact row_t [1] rfl (by decide +kernel)
    · exact row_t [-6] rfl (by decide +kernel)
    · exact row_t [0, 1] rfl (by decide +kernel)
    · exact row_t [1] rfl (by decide +kernel)
    · exact row_t [1] rfl (by decide +kernel)
    · exact row_n (by decide +kernel)
    · exact row_o (by decide +kernel)
    · exact row_o (by decide +kernel)
  have eG2 : Ex G C2 := Exs.ex
  clear m1 n1 m2 n2 m3 n3 m4 n4 m5 n5 m6 n6 m7 n7 m8 n8 n9 n10 n11 o1 o2
  have uC2 : Up G C2 := ⟨eG2⟩
  refine b_forL2 ?_
  leaf_len
  refine ⟨q2, rw0, rfl, SqL.of hrw.h, fun i σ' H' => ∃ y3 y4, σ' = [some (.ref D), some (.ref s), some (.ref q2), y3, y4, none, none] ∧ Ex C2 H', ⟨_, _, rfl, Ex.refl _⟩, ?_, ?_, ?_⟩
  · rintro i σ' H' hi ⟨_, _, _, ex⟩
    exact SqL.of (ex _ _ hrw.h)
  · rintro i v σ' H' hv ⟨y3, y4, rfl, ex⟩
    have u3 : Up C2 H' := ⟨ex⟩
    obtain ⟨T, x, due, rfl, hT, tA⟩ := ((rows v (List.mem_of_getElem? hv)).up ex).ex
    refine ⟨T, _, _, rfl, hT, x_p2 ?_⟩
    cases tA with
    | @nobody dx h =>
      leaf_len
      refine e_meth cN ?_
      leaf_len
      refine x_meth rfl ?_
      leaf_len
      refine x_nobody (by decide) fun HX uX => ?_
      leaf_len
      refine x_says ?_
      leaf_len
      exact ⟨_, _, rfl, Exs.ex⟩
    | @open_ dx i1 j1 h =>
      leaf_len
      refine e_meth cO ?_
      leaf_len
      refine x_meth rfl ?_
      leaf_len
      refine x_open (dx := dx) (by decide) fun HX uX => ?_
      leaf_len
      refine x_says ?_
      leaf_len
      refine iteF' (by rw [decide_eq_true rfl]; rfl) ?_
      leaf_len
      exact ⟨_, _, rfl, Exs.ex⟩
    | @thought dx c n ws h hc =>
      leaf_len
      refine e_meth cH ?_
      leaf_len
      refine x_meth rfl ?_
      leaf_len
      refine x_thought (dx := dx) (c := c) (ws := ws) (by decide) fun HX uX => ?_
      leaf_len
      refine x_says ?_
      leaf_len
      refine iteF' (by rw [decide_eq_true rfl]; rfl) ?_
      leaf_len
      exact ⟨_, _, rfl, Exs.ex⟩
  rintro σ' K0 ⟨y3, y4, rfl, ex⟩
  have uK0 : Up C2 K0 := ⟨ex⟩
  leaf_len
  rename_i t1 K1 k1 t2 K2 k2 t3 K3 k3
  have l3 : LL K3 t3 [t1, t2] [[0], [0]] := inferInstance
  have eK3 : Ex G K3 := eG2.trans (ex.trans Exs.ex)
  clear k1 k2 k3
  have uK3 : Up G K3 := ⟨eK3⟩
  refine x_ins cO ["one", "other"] rfl fun x21 dx21 B21 n21 => ?_
  leaf_len
  refine x_ins cO ["one", "other"] rfl fun x22 dx22 B22 n22 => ?_
  leaf_len
  refine x_ins cO ["one", "other"] rfl fun x23 dx23 B23 n23 => ?_
  leaf_len
  refine x_ins cO ["one", "other"] rfl fun x24 dx24 B24 n24 => ?_
  leaf_len
  refine x_ins cO ["one", "other"] rfl fun x25 dx25 B25 n25 => ?_
  leaf_len
  rename_i q3 C3 o3
  obtain ⟨rw1, hrw1, rows1⟩ : ∃ ys : List V, At C3 q3 (.lst ys) ∧ ∀ v ∈ ys, RowT cH cO cN C3 [[0], [0]] 3 [false, false] 0 v := by
    refine ⟨_, ⟨o3.at_⟩, fun v hv => ?_⟩
    simp only [List.mem_cons, List.not_mem_nil, or_false] at hv
    rcases hv with rfl | rfl | rfl | rfl | rfl
    · exact row_o (by decide +kernel)
    · exact row_o (by decide +kernel)
    · exact row_o (by decide +kernel)
    · exact row_o (by decide +kernel)
    · exact row_o (by decide +kernel)
  have e33 : Ex K3 C3 := Exs.ex
  clear n21 n22 n23 n24 n25 o3
  have u33 : Up K3 C3 := ⟨e33⟩
  refine b_forL2 ?_
  leaf_len
  refine ⟨q3, rw1, rfl, SqL.of hrw1.h, fun i σ' H' => ∃ y3 y4, σ' = [some (.ref D), some (.ref s), some (.ref q3), y3, y4, some (.ref t3), none] ∧ Ex C3 H', ⟨_, _, rfl, Ex.refl _⟩, ?_, ?_, ?_⟩
  · rintro i σ' H' hi ⟨_, _, _, ex⟩
    exact SqL.of (ex _ _ hrw1.h)
  · rintro i v σ' H' hv ⟨y3, y4, rfl, ex⟩
    have u3 : Up C3 H' := ⟨ex⟩
    obtain ⟨T, x, due, rfl, hT, tA⟩ := ((rows1 v (List.mem_of_getElem? hv)).up ex).ex
    refine ⟨T, _, _, rfl, hT, x_p2 ?_⟩
    cases tA with
    | @nobody dx h =>
      leaf_len
      refine e_meth cN ?_
      leaf_len
      refine x_meth rfl ?_
      leaf_len
      refine x_nobody (cs := [[0], [0]]) (sd := [false, false]) (by decide) fun HX uX => ?_
      leaf_len
      refine x_says ?_
      leaf_len
      exact ⟨_, _, rfl, Exs.ex⟩
    | @open_ dx i1 j1 h =>
      leaf_len
      refine e_meth cO ?_
      leaf_len
      refine x_meth rfl ?_
      leaf_len
      refine x_open (cs := [[0], [0]]) (sd := [false, false]) (dx := dx) (by decide) fun HX uX => ?_
      leaf_len
      refine x_says ?_
      leaf_len
      refine iteF' (by rw [decide_eq_true rfl]; rfl) ?_
      leaf_len
      exact ⟨_, _, rfl, Exs.ex⟩
    | @thought dx c n ws h hc =>
      leaf_len
      refine e_meth cH ?_
      leaf_len
      refine x_meth rfl ?_
      leaf_len
      refine x_thought (cs := [[0], [0]]) (sd := [false, false]) (dx := dx) (c := c) (ws := ws) (by decide) fun HX uX => ?_
      leaf_len
      refine x_says ?_
      leaf_len
      refine iteF' (by rw [decide_eq_true rfl]; rfl) ?_
      leaf_len
      exact ⟨_, _, rfl, Exs.ex⟩
  rintro σ' K4 ⟨y5, y6, rfl, ex4⟩
  have uK4 : Up C3 K4 := ⟨ex4⟩
  leaf_len
  refine x_ins cL ["one", "other"] rfl fun x26 dx26 B26 n26 => ?_
  leaf_len
  refine x_ins cL ["one", "other"] rfl fun x27 dx27 B27 n27 => ?_
  leaf_len
  refine x_ins cL ["one", "other"] rfl fun x28 dx28 B28 n28 => ?_
  leaf_len
  refine x_ins cL ["one", "other"] rfl fun x29 dx29 B29 n29 => ?_
  leaf_len
  refine x_ins cL ["one", "other"] rfl fun x30 dx30 B30 n30 => ?_
  leaf_len
  refine y_cat (by exact (show 4 + 1 ≤ 100000 by decide)) fun q4 C4 o4 => ?_
  leaf_len
  obtain ⟨rw2, hrw2, rows2⟩ : ∃ ys : List V, At C4 q4 (.lst ys) ∧ ∀ v ∈ ys, RowA cL C4 [[0], [0]] 3 0 v := by
    refine ⟨_, ⟨o4.at_⟩, fun v hv => ?_⟩
    simp only [List.cons_append, List.nil_append, List.mem_cons, List.not_mem_nil, or_false] at hv
    rcases hv with rfl | rfl | rfl | rfl | rfl
    · exact row_a (by decide +kernel)
    · exact row_a (by decide +kernel)
    · exact row_a (by decide +kernel)
    · exact row_a (by decide +kernel)
    · exact row_a (by decide +kernel)
  have e44 : Ex K4 C4 := Exs.ex
  clear n26 n27 n28 n29 n30 o4
  have u44 : Up K4 C4 := ⟨e44⟩
  refine b_forL2 ?_
  leaf_len
  refine ⟨q4, rw2, rfl, SqL.of hrw2.h, fun i σ' H' => ∃ y3 y4, σ' = [some (.ref D), some (.ref s), some (.ref q4), y3, y4, some (.ref t3), none] ∧ Ex C4 H', ⟨_, _, rfl, Ex.refl _⟩, ?_, ?_, ?_⟩
  · rintro i σ' H' hi ⟨_, _, _, ex⟩
    exact SqL.of (ex _ _ hrw2.h)
  · rintro i v σ' H' hv ⟨y3, y4, rfl, ex⟩
    have u3 : Up C4 H' := ⟨ex⟩
    obtain ⟨T, x, dx, i1, j1, rfl, hT, hx⟩ := ((rows2 v (List.mem_of_getElem? hv)).up ex).ex
    refine ⟨T, _, _, rfl, hT, x_p2 ?_⟩
    leaf_len
    refine e_meth cL ?_
    leaf_len
    refine x_meth rfl ?_
    leaf_len
    refine x_alike (cs := [[0], [0]]) (dx := dx) (by decide) fun HX uX => ?_
    leaf_len
    refine x_says ?_
    leaf_len
    refine iteF' (by rw [decide_eq_true rfl]; rfl) ?_
    leaf_len
    exact ⟨_, _, rfl, Exs.ex⟩
  rintro σ' K5 ⟨y7, y8, rfl, ex5⟩
  have eG5 : Ex G K5 := eK3.trans (e33.trans (ex4.trans (e44.trans ex5)))
  have l5 : LL K5 D rs cs16 := lG.up eG5
  have s5 : At K5 s (.lst ([false, false, false, true, true, true, false].map V.bl)) := ⟨eG5 _ _ aS.h⟩
  leaf_len
  refine x_told (by decide) ok_16 (tq fun x HT uT fT jT => ?_)
  have en : nearP cs16 16 [false, false, false, true, true, true, false] 1 = [5] := by decide +kernel
  have ew : wrongP cs16 5 [false, false, false, true, true, true, false] = [1] := by decide +kernel
  obtain ⟨dx, c, hx, hc, fr⟩ : ∃ dx c, At HT x (.ins cH dx [("number", .int 5), ("cards", .ref c)]) ∧ At HT c (.lst [.int 1]) ∧ K5 c = none := by
    cases jT with
    | nobody h e => rw [en] at e; cases e
    | open_ h e => rw [en] at e; cases e
    | @thought dx c n h hc fr e =>
      rw [en] at e
      obtain rfl : (5 : Int) = n := (List.cons.inj e).1
      rw [ew] at hc
      exact ⟨dx, c, h, hc, fr⟩
  clear jT
  have ncs : c ≠ s := fun z => by
    have := s5.h
    rw [← z, fr] at this
    cases this
  have nxc : x ≠ c := fun z => by
    have := hx.h
    rw [z, hc.h] at this
    cases this
  have nxs : x ≠ s := fun z => by
    have h1 := hx.h
    rw [z, uT.ex _ _ s5.h] at h1
    cases h1
  have exT : Ex H2 HT := e2G.trans (eG5.trans uT.ex)
  leaf_len
  refine ⟨_, hc.h, by decide, ?_⟩
  generalize hG6 : upd HT c (.lst ([V.int 1] ++ [V.int 2])) = G6
  have c6 : At G6 c (.lst [.int 1, .int 2]) := ⟨by rw [← hG6]; exact upd_same⟩
  have x6 : At G6 x (.ins cH dx [("number", .int 5), ("cards", .ref c)]) := ⟨by rw [← hG6, upd_ne nxc]; exact hx.h⟩
  have e6 : Ex K5 G6 := by rw [← hG6]; exact Ex.mut uT.ex fr
  have l6 : LL G6 D rs cs16 := l5.up e6
  have s6 : At G6 s (.lst ([false, false, false, true, true, true, false].map V.bl)) := ⟨e6 _ _ s5.h⟩
  clear hG6 hx hc
  leaf_len
  refine e_meth cH ?_
  leaf_len
  refine x_meth rfl ?_
  leaf_len
  refine x_thought (dx := dx) (c := c) (ws := [1, 2]) (sd := [false, false, false, true, true, true, false]) (by decide) fun HX uHX => ?_
  rw [show thoughtP cs16 16 [false, false, false, true, true, true, false] 1 5 [1, 2] = false by decide +kernel]
  leaf_len
  have cX : At HX c (.lst [.int 1, .int 2]) := inferInstance
  have xX : At HX x (.ins cH dx [("number", .int 5), ("cards", .ref c)]) := inferInstance
  refine e_pop ?_
  leaf_len
  refine ⟨c, _, _, rfl, cX.h, rfl, ?_⟩
  generalize hG7 : upd HX c (.lst ([V.int 1, V.int 2].dropLast)) = G7
  have c7 : At G7 c (.lst [.int 1]) := ⟨by rw [← hG7]; exact upd_same⟩
  have x7 : At G7 x (.ins cH dx [("number", .int 5), ("cards", .ref c)]) := ⟨by rw [← hG7, upd_ne nxc]; exact xX.h⟩
  have e7 : Ex K5 G7 := by rw [← hG7]; exact Ex.mut (e6.trans uHX.ex) fr
  have s7 : At G7 s (.lst ([false, false, false, true, true, true, false].map V.bl)) := ⟨e7 _ _ s5.h⟩
  have e27 : Ex H2 G7 := e2G.trans (eG5.trans e7)
  clear hG7
  leaf_len
  refine b_set ?_
  leaf_len
  refine y_ix (n := 1) (v := .bl false) rfl (by decide) ?_
  leaf_len
  refine ⟨s, _, 1, rfl, rfl, s7.h, by decide, ?_⟩
  generalize hG8 : upd G7 s (.lst (List.set (List.map V.bl [false, false, false, true, true, true, false]) 1 (.bl (!false)))) = G8
  have s8 : At G8 s (.lst ([false, true, false, true, true, true, false].map V.bl)) := ⟨by rw [← hG8]; exact upd_same⟩
  have c8 : At G8 c (.lst [.int 1]) := ⟨by rw [← hG8, upd_ne ncs]; exact c7.h⟩
  have x8 : At G8 x (.ins cH dx [("number", .int 5), ("cards", .ref c)]) := ⟨by rw [← hG8, upd_ne nxs]; exact x7.h⟩
  have e8 : Ex H2 G8 := by rw [← hG8]; exact Ex.mut e27 n3.fr
  have l8 : LL G8 D rs cs16 := l1.up e8
  clear hG8
  leaf_len
  refine e_meth cH ?_
  leaf_len
  refine x_meth rfl ?_
  leaf_len
  refine x_thought (dx := dx) (c := c) (ws := [1]) (sd := [false, true, false, true, true, true, false]) (by decide) fun HY uHY => ?_
  rw [show thoughtP cs16 16 [false, true, false, true, true, true, false] 1 5 [1] = false by decide +kernel]
  leaf_len
  have cY : At HY c (.lst [.int 1]) := inferInstance
  have xY : At HY x (.ins cH dx [("number", .int 5), ("cards", .ref c)]) := inferInstance
  have sY : At HY s (.lst ([false, true, false, true, true, true, false].map V.bl)) := inferInstance
  refine b_set ?_
  leaf_len
  refine y_ix (n := 1) (v := .bl true) rfl (by decide) ?_
  leaf_len
  refine ⟨s, _, 1, rfl, rfl, sY.h, by decide, ?_⟩
  generalize hG9 : upd HY s (.lst (List.set (List.map V.bl [false, true, false, true, true, true, false]) 1 (.bl (!true)))) = G9
  have s9 : At G9 s (.lst ([false, false, false, true, true, true, false].map V.bl)) := ⟨by rw [← hG9]; exact upd_same⟩
  have c9 : At G9 c (.lst [.int 1]) := ⟨by rw [← hG9, upd_ne ncs]; exact cY.h⟩
  have x9 : At G9 x (.ins cH dx [("number", .int 5), ("cards", .ref c)]) := ⟨by rw [← hG9, upd_ne nxs]; exact xY.h⟩
  have e9 : Ex H2 G9 := by rw [← hG9]; exact Ex.mut (e8.trans uHY.ex) n3.fr
  have l9 : LL G9 D rs cs16 := l1.up e9
  clear hG9
  leaf_len
  refine e_meth cH ?_
  leaf_len
  refine x_meth rfl ?_
  leaf_len
  refine x_thought (dx := dx) (c := c) (ws := [1]) (sd := [false, false, false, true, true, true, false]) (by decide) fun HZ uHZ => ?_
  rw [show thoughtP cs16 16 [false, false, false, true, true, true, false] 1 5 [1] = true by decide +kernel]
  leaf_len
  exact q _ ⟨(e02.trans e9).trans uHZ.ex⟩
end
/-! ### k09: _law_apart_right -/
structure Dfc (K : PySem.W.Frag) (mg : Str → Option Value) (x : Str) (st : Stmt) (ps : List Str) : Prop where
  ex : ∃ fd, FunD K x x (defArgs st) (defBody st) (defScope st) [] [] (He.fAd K (x, none)) fd ∧ mg x = some (.ref (He.fAd K (x, none))) ∧ Binds K fd ps []
structure Mkr (K : PySem.W.Frag) (mg : Str → Option Value) (base : Heap) (T : List (Addr × Str)) (x : Str) : Prop where
  ex : ∃ Pt, LamX.TabB base mg (He.codeOf K (x, none)) Pt ∧ (Pt, x ++ ".<locals>." ++ "<lambda>") ∈ T ∧ ∀ p ∈ T, p.1 = Pt → p.2 = x ++ ".<locals>." ++ "<lambda>"
theorem okdM2 {P : Program} {w : World} {K : PySem.W.Frag} {mg : Str → Option Value} {base : Heap} {T : List (Addr × Str)} {x : Str} {st : Stmt} {N ps R G B : List Str} {k : Nat} {sp : Sp} (F : Dfc K mg x st ps) (mk : Mkr K mg base T x) (d : DefOk (defScope st) N ps R G) (hB : ∀ y ∈ B, mg y = none) (len : ∀ vs H Q E, sp vs H Q E → vs.length = ps.length)
    (body : ∀ X : Cx, Bd P w K mg base k X → Ck X (defScope st) N R R G B → Lm X T → (∀ y, X.fn y = true) → ∀ vs H Q E, Tk X (fun cls d _ H => E cls d H) → sp vs H Q E →
      sB X (defBody st) { nx := fun _ H' => Q .non H', rt := Q } (start N vs) H) : Kn P w K mg base (k + 1) x ps sp := by
  obtain ⟨fd, F, hm, hb⟩ := F.ex
  exact ⟨_, fd, okDM2 F mk.ex d hB len body, hm, F.kp, hb⟩
structure Doors9 (P : Program) (w : World) (K : PySem.W.Frag) (mg : Str → Option Value) (base : Heap) (es : Es) : Prop where
  mr : Kn P w K mg base 4 "marks" p_marks (spR (RMarks es.m es.c es.n))
  tg : Kn P w K mg base 4 "together" p_together (spTogR es.m es.c es.t)
  or_ : Kn P w K mg base 4 "ordered" p_ordered (spOrdR es.m es.c es.o)
  jd : Kn P w K mg base 4 "judged" p_judged (spR (RJud es.m es.c es.l))
  tl : Kn P w K mg base 4 "told" p_told (spR (RTold es.m es.c es.s es.l))
  md : Kn P w K mg base 4 "made" p_made (spR (RMade es.m es.b))
  fw : Kn P w K mg base 4 "fewest" p_fewest (spFewR es.m es.l)
structure Errs (K : PySem.W.Frag) (es : Es) : Prop where
  m : ErrAt K es 0 es.m
  c : ErrAt K es 1 es.c
  n : ErrAt K es 2 es.n
  s : ErrAt K es 3 es.s
  l : ErrAt K es 4 es.l
  b : ErrAt K es 5 es.b
  o : ErrAt K es 6 es.o
  t : ErrAt K es 7 es.t
def spApart (T : List (Addr × Str)) : Sp := fun vs H Q _ => ∃ m : Int, vs = [.int m] ∧ (1 ≤ m ∧ m ≤ 16) ∧ Tb T H ∧ ∀ H', Tb T H' → ExN H H' → Q (.bl true) H'
theorem x_apart {T : List (Addr × Str)} {H : Hp} {Q : VK} {E : XK} {m : Int} [t : Tb T H] (h : 1 ≤ m ∧ m ≤ 16) (q : ∀ H', Tb T H' → ExN H H' → Q (.bl true) H') : spApart T [.int m] H Q E := ⟨m, rfl, h, t, q⟩
theorem ne_kn {H : Hp} {x y : Addr} {o : HO} (h : H x = some o) (n : H y = none) : x ≠ y := fun z => by rw [z, n] at h; cases h
theorem two_rows {H H' : Hp} {D : Addr} {rs : List Addr} {x y : List V} (n : NewLs H D rs [x, y] H') : ∃ a b, rs = [a, b] ∧ H' D = some (.lst [.ref a, .ref b]) ∧ H' a = some (.lst x) ∧ H' b = some (.lst y) ∧ H a = none ∧ H b = none ∧ H D = none ∧ a ≠ b ∧ a ≠ D := by
  have hl := n.len
  match rs, hl with
  | [a, b], _ =>
    have hr := n.row
    cases hr with
    | cons h1 t =>
      cases t with
      | cons h2 t =>
        have nd := n.nd
        have ni := n.ni
        simp only [List.nodup_cons, List.mem_cons, List.not_mem_nil, or_false] at nd
        simp only [List.mem_cons, List.not_mem_nil, or_false, not_or] at ni
        exact ⟨a, b, rfl, n.top, h1, h2, n.fr a (by simp), n.fr b (by simp), n.fd, nd.1, fun z => ni.1 z.symm⟩
def Bad7 (sx : Addr) (H : Hp) (v : V) : Prop := ∃ p r r', v = .ref p ∧ H p = some (.lst ((List.replicate 7 r).map V.ref)) ∧ H r = some (.lst [.int 0]) ∧ H sx = some (.lst ((List.replicate 6 r').map V.ref)) ∧ H r' = some (.lst [.int 0])
theorem LL.upN {H H' : Hp} {a : Addr} {rs : List Addr} {cs : List (List Int)} (h : LL H a rs cs) (e : LamX.ExtN H H') : LL H' a rs cs := ⟨ExtN.l e h.top, pair_mono (fun _ _ q => ExtN.l e q) h.row⟩
theorem th_m {m : Int} (h : 1 ≤ m ∧ m ≤ 16) : thoughtP [[0], [0]] m [true, false] 1 0 [1] = decide (m = 1) := of_decide_eq_true (all_mb (F := fun m _ => decide (thoughtP [[0], [0]] m [true, false] 1 0 [1] = decide (m = 1))) (by decide +kernel) h (b := 2) (by decide))
theorem ok_00 {m : Int} {n : Nat} (h : 1 ≤ m) (hn : n ≤ 12) : CardsOk m (List.replicate n [0]) := ⟨by rw [List.length_replicate]; exact hn, fun c hc => by
  rw [(List.mem_replicate.mp hc).2]
  exact ⟨by decide, fun n hn => by rw [List.mem_singleton.mp hn]; omega, by simp⟩⟩
section
variable {P : Program} {w : World} {K : PySem.W.Frag} {mg : Str → Option Value} {base : Heap} {cA cT cL cH cO cN : Addr} {es : Es} {T : List (Addr × Str)}
theorem k_law_apart_right (F : Dfc K mg "_law_apart_right" s_law_apart_right p_law_apart_right) (mk : Mkr K mg base T "_law_apart_right") (hB : ∀ y ∈ bl, mg y = none) (an : Ans P w K mg base cA cT cL cH cO cN) (kT : Kn P w K mg base 4 "together" p_together spTogether) (kO : Kn P w K mg base 4 "ordered" p_ordered spOrdered) (kM : Kn P w K mg base 4 "marks" p_marks spMarks) (kTo : Kn P w K mg base 4 "told" p_told (spTold cH cO cN)) (kS : Kn P w K mg base 1 "_law_says" p_law_says spSays)
    (kG : ∀ cl fr ws, KnG P w K mg base 6 "_law_refused" p_law_refused (CellG cl fr ws) (spRefG P w K mg base es cl fr ws)) (ds : Doors9 P w K mg base es) (er : Errs K es) : Kn P w K mg base 7 "_law_apart_right" p_law_apart_right (spApart T) := by
  refine okdM2 F mk d_law_apart_right hB (fun vs H Q E ⟨p, e, _⟩ => by rw [e]; rfl) fun X bd C lm fn vs H Q E t0 h => ?_
  obtain ⟨m, rfl, hm, tb, q⟩ := h
  have f1 := bd.fk kT (by decide)
  have f2 := bd.fk kO (by decide)
  have f3 := bd.fk kM (by decide)
  have f4 := bd.fk kTo (by decide)
  have f5 := bd.fk kS (by decide)
  have ax := bd.ans an (by decide)
  have ru := bd.ru
  have po := bd.po
  show sB X _ _ [some (.int m), none, none, none, none, none, none, none] H
  refine b_par2 (by decide +kernel) (by decide) rfl ?_
  leaf_len
  rename_i ca H1 n1 z1 H2 n2 z2 H3 n3 cs H4 n4 tw H5 n5
  have lt5 : LL H5 tw [ca, ca] [[0], [0]] := inferInstance
  have lc5 : LL H5 cs [z1, z2] [[0], [0]] := inferInstance
  have a5 : At H5 ca (.lst [.int 0]) := inferInstance
  have ok2 : CardsOk m [[0], [0]] := ok_00 (n := 2) hm.1 (by decide)
  have ok0 : CardsOk m [] := ⟨by decide, by simp⟩
  have e05 : Ex H H5 := Exs.ex
  clear n1 n2 n3 n4 n5
  refine b_forL ?_
  leaf_len
  rename_i q1 E1 m1
  refine x_together (cs := [[0], [0]]) (cs' := []) (by omega) ok2 ok0 (by decide) fun D1 rs1 B1 nl1 => ?_
  replace nl1 : NewLs E1 D1 rs1 [[.int 0], [.int 0]] B1 := nl1
  leaf_len
  rename_i q2 E2 m2
  refine x_ordered (os := [1, 0]) (by omega) ok2 rfl (by decide) fun D2 rs2 B2 nl2 => ?_
  replace nl2 : NewLs E2 D2 rs2 [[.int 0], [.int 0]] B2 := nl2
  leaf_len
  rename_i q3 E3 m3
  refine x_together (cs := []) (cs' := [[0], [0]]) (by omega) ok0 ok2 (by decide) fun D3 rs3 B3 nl3 => ?_
  replace nl3 : NewLs E3 D3 rs3 [[.int 0], [.int 0]] B3 := nl3
  leaf_len
  rename_i L HL nL
  obtain ⟨a1, b1, rfl, d1, ha1, hb1, fa1, fb1, fd1, nab1, nad1⟩ := two_rows nl1
  obtain ⟨a2, b2, rfl, d2, ha2, hb2, fa2, fb2, fd2, nab2, nad2⟩ := two_rows nl2
  obtain ⟨a3, b3, rfl, d3, ha3, hb3, fa3, fb3, fd3, nab3, nad3⟩ := two_rows nl3
  have x12 : Ex B1 E2 := m2.ex
  have x1L : Ex B1 HL := x12.trans (nl2.ex.trans (m3.ex.trans (nl3.ex.trans nL.ex)))
  have x2L : Ex B2 HL := m3.ex.trans (nl3.ex.trans nL.ex)
  have x3L : Ex B3 HL := nL.ex
  have x13 : Ex B1 E3 := x12.trans (nl2.ex.trans m3.ex)
  have x5L : Ex H5 HL := m1.ex.trans (nl1.ex.trans x1L)
  -- the rows that are written are other objects than all that is read
  have n1 : ∀ y ∈ [D1, b1, D2, a2, b2, D3, a3, b3, L], a1 ≠ y := by
    intro y hy
    simp only [List.mem_cons, List.not_mem_nil, or_false] at hy
    rcases hy with rfl | rfl | rfl | rfl | rfl | rfl | rfl | rfl | rfl
    · exact nad1
    · exact nab1
    · exact ne_kn (x12 _ _ ha1) fd2
    · exact ne_kn (x12 _ _ ha1) fa2
    · exact ne_kn (x12 _ _ ha1) fb2
    · exact ne_kn (x13 _ _ ha1) fd3
    · exact ne_kn (x13 _ _ ha1) fa3
    · exact ne_kn (x13 _ _ ha1) fb3
    · exact ne_kn ((x13.trans nl3.ex) _ _ ha1) nL.fr
  have n2 : ∀ y ∈ [D2, b2, D3, a3, b3, L], a2 ≠ y := by
    intro y hy
    simp only [List.mem_cons, List.not_mem_nil, or_false] at hy
    rcases hy with rfl | rfl | rfl | rfl | rfl | rfl
    · exact nad2
    · exact nab2
    · exact ne_kn (m3.ex _ _ ha2) fd3
    · exact ne_kn (m3.ex _ _ ha2) fa3
    · exact ne_kn (m3.ex _ _ ha2) fb3
    · exact ne_kn ((m3.ex.trans nl3.ex) _ _ ha2) nL.fr
  have n3 : ∀ y ∈ [D3, b3, L], a3 ≠ y := by
    intro y hy
    simp only [List.mem_cons, List.not_mem_nil, or_false] at hy
    rcases hy with rfl | rfl | rfl
    · exact nad3
    · exact nab3
    · exact ne_kn ha3 nL.fr
  have h51 : H5 a1 = none := Evl.fresh_back m1.ex fa1
  have h52 : H5 a2 = none := Evl.fresh_back (m1.ex.trans (nl1.ex.trans x12)) fa2
  have h53 : H5 a3 = none := Evl.fresh_back (m1.ex.trans (nl1.ex.trans x13)) fa3
  have atL := nL.at_
  -- what is known when i of them were written
  let W : Nat → Hp := fun i => match i with
    | 0 => HL
    | 1 => wipe HL a1
    | 2 => wipe (wipe HL a1) a2
    | _ => wipe (wipe (wipe HL a1) a2) a3
  have w5 : ∀ i, Ex H5 (W i) := fun i => by
    match i with
    | 0 => exact x5L
    | 1 => exact wipe_of x5L h51
    | 2 => exact wipe_of (wipe_of x5L h51) h52
    | _ + 3 => exact wipe_of (wipe_of (wipe_of x5L h51) h52) h53
  have wL : ∀ i, W i L = some (.lst [.ref D1, .ref D2, .ref D3]) := fun i => by
    have z1 := wipe_ne (p := a1) atL (n1 L (by simp)).symm
    have z2 := wipe_ne (p := a2) z1 (n2 L (by simp)).symm
    match i with
    | 0 => exact atL
    | 1 => exact z1
    | 2 => exact z2
    | _ + 3 => exact wipe_ne z2 (n3 L (by simp)).symm
  -- the i-th of them, before it is written; behind it the next heap
  have turn : ∀ i v, [V.ref D1, V.ref D2, V.ref D3][i]? = some v → ∃ D a b, v = .ref D ∧ W i D = some (.lst [.ref a, .ref b]) ∧ W i a = some (.lst [.int 0]) ∧ W i b = some (.lst [.int 0]) ∧ a ≠ D ∧ a ≠ b ∧ H5 a = none ∧ ∀ H', Ex (W i) H' → ∀ o, Ex (W (i + 1)) (upd H' a o) := by
    intro i v hv
    have up_ : ∀ {Wp H' : Hp} {a : Addr} {o : HO}, Ex Wp H' → Ex (wipe Wp a) (upd H' a o) := fun {Wp H' a o} e b u h => by
      by_cases z : b = a
      · unfold wipe at h
        rw [if_pos z] at h
        cases h
      · rw [upd_ne z]
        exact e b u (wipe_ex b u h)
    match i, hv with
    | 0, hv => exact ⟨D1, a1, b1, (Option.some.inj hv).symm, x1L _ _ d1, x1L _ _ ha1, x1L _ _ hb1, nad1, nab1, h51, fun H' e o => up_ e⟩
    | 1, hv => exact ⟨D2, a2, b2, (Option.some.inj hv).symm, wipe_ne (x2L _ _ d2) (n1 D2 (by simp)).symm, wipe_ne (x2L _ _ ha2) (n1 a2 (by simp)).symm, wipe_ne (x2L _ _ hb2) (n1 b2 (by simp)).symm, nad2, nab2, h52, fun H' e o => up_ e⟩
    | 2, hv => exact ⟨D3, a3, b3, (Option.some.inj hv).symm, wipe_ne (wipe_ne (x3L _ _ d3) (n1 D3 (by simp)).symm) (n2 D3 (by simp)).symm, wipe_ne (wipe_ne (x3L _ _ ha3) (n1 a3 (by simp)).symm) (n2 a3 (by simp)).symm, wipe_ne (wipe_ne (x3L _ _ hb3) (n1 b3 (by simp)).symm) (n2 b3 (by simp)).symm, nad3, nab3, h53, fun H' e o => up_ e⟩
  have w0 : W 0 = HL := rfl
  clear_value W
  rw [← w0]
  clear nl1 nl2 nl3 nL m1 m2 m3
  refine ⟨L, _, rfl, SqL.of (wL 0), fun i σ' H' => ∃ y, σ' = [some (.int m), some (.ref ca), some (.ref cs), some (.ref tw), y, none, none, none] ∧ Ex (W i) H', ⟨_, rfl, Ex.refl _⟩, ?_, ?_, ?_⟩
  · rintro i σ' H' hi ⟨_, _, ex⟩
    exact SqL.of (ex _ _ (wL i))
  · rintro i v σ' H' hv ⟨y, rfl, ex⟩
    obtain ⟨D, a, b, rfl, h1, h2, h3, h4, h5, h6, h7⟩ := turn i v hv
    refine x_tp ?_
    have atD : At H' D (.lst [.ref a, .ref b]) := ⟨ex _ _ h1⟩
    have ata : At H' a (.lst [.int 0]) := ⟨ex _ _ h2⟩
    have atb : At H' b (.lst [.int 0]) := ⟨ex _ _ h3⟩
    leaf_len
    refine y_ix (n := 0) (v := .ref a) rfl (by decide) ?_
    leaf_len
    refine ⟨_, ata.h, by decide, ?_⟩
    generalize hG : upd H' a (.lst ([V.int 0] ++ [V.int 9])) = G
    have exG : Ex (W (i + 1)) G := by rw [← hG]; exact h7 _ ex _
    have dG : At G D (.lst [.ref a, .ref b]) := ⟨by rw [← hG, upd_ne h4.symm]; exact atD.h⟩
    have bG : At G b (.lst [.int 0]) := ⟨by rw [← hG, upd_ne h5.symm]; exact atb.h⟩
    clear hG atD ata atb
    have u5G : Up H5 G := ⟨(w5 (i + 1)).trans exG⟩
    leaf_len
    refine y_ix (n := 1) (v := .ref b) rfl (by decide) ?_
    leaf_len
    exact ⟨_, rfl, exG.trans Exs.ex⟩
  rintro σ' H6 ⟨y, rfl, ex⟩
  have e06 : Ex H H6 := e05.trans ((w5 _).trans ex)
  have e56 : Ex H5 H6 := (w5 _).trans ex
  clear turn wL w5 w0 ex
  have l6 : LL H6 tw [ca, ca] [[0], [0]] := lt5.up e56
  have k6 : LL H6 cs [z1, z2] [[0], [0]] := lc5.up e56
  have c6 : At H6 ca (.lst [.int 0]) := ⟨e56 _ _ a5.h⟩
  have u06 : Up H H6 := ⟨e06⟩
  leaf_len
  rename_i p1 J1 o1 p2 J2 o2
  refine x_rep o2.at_ (by exact (show 1 * 6 ≤ 100000 by decide)) (by decide) (by decide) fun sx J3 o3 => ?_
  leaf_len
  have ls : LL J3 sx (List.replicate 6 p1) (List.replicate 6 [0]) := by
    have z1 : At J3 p1 (.lst [.int 0]) := inferInstance
    exact ⟨o3.at_, pair_rep (c := [0]) z1.h 6⟩
  refine x_together (by omega) (ok_00 hm.1 (by decide)) (ok_00 hm.1 (by decide)) (by decide) fun D4 rs4 J4 o4 => ?_
  leaf_len
  rename_i p5 J5 o5 p6 J6 o6
  refine x_rep o6.at_ (by exact (show 1 * 12 ≤ 100000 by decide)) (by decide) (by decide) fun p7 J7 o7 => ?_
  have l12 : LL J7 p7 (List.replicate 12 p5) (List.replicate 12 [0]) := by
    have z1 : At J7 p5 (.lst [.int 0]) := inferInstance
    exact ⟨o7.at_, pair_rep (c := [0]) z1.h 12⟩
  refine y_neD (List (List Int)) ?_
  leaf_len
  have kG' : ∀ cl, KnG X.prog X.w X.K X.mg X.base 6 "_law_refused" p_law_refused (CellG cl ["_law_many", "_law_six"] [some (.int m), some (.ref sx)]) (spRefG P w K mg base es cl ["_law_many", "_law_six"] [some (.int m), some (.ref sx)]) := fun cl => by
    rw [bd.pr, bd.w, bd.K, bd.mg, bd.base]
    exact kG cl _ _
  refine e_refC ["_law_many", "_law_six"] [0, 5] kG' bd.rm fn rfl fun f c' J8 tb8 l8 => ?_
  leaf_len
  rename_i p9 J9 o9 p10 J10 o10
  refine x_rep o10.at_ (by exact (show 1 * 7 ≤ 100000 by decide)) (by decide) (by decide) fun p11 J11 o11 => ?_
  leaf_len
  have e811 : Ex J8 J11 := Exs.ex
  have z1 : At J11 p11 (.lst (List.replicate (Int.toNat 7) [V.ref p9]).flatten) := inferInstance
  have z2 : At J11 p9 (.lst [V.int 0]) := inferInstance
  have z3 : At J11 sx (.lst (List.replicate (Int.toNat 6) [V.ref p1]).flatten) := inferInstance
  have z4 : At J11 p1 (.lst [V.int 0]) := inferInstance
  refine ⟨f, _, 7, es.t, Bad7 sx, _, _, rfl, e811 _ _ l8.at_, e811 _ _ l8.co, rfl, okL (k := 4) (N := ["_law_more", "_law_many", "_law_six"]) (ps := ["_law_more"]) (R := ["_law_more", "_law_many", "_law_six"]) (G := ["together"]) (by dsimp only; decide +kernel) hB (fun pm ctv us h => match us, h with | [u], _ => rfl) (fun ws vs H Q E ⟨_, v, e, _⟩ => by rw [e]; rfl) (fun X' bd' C' ws vs H0 Q0 E0 t0' hw h => ?_), ⟨p11, p9, p1, rfl, z1.h, z2.h, z3.h, z4.h⟩, er.t, fun J12 u12 => ?_⟩
  · obtain ⟨rfl, v, rfl, ⟨p, r, r', rfl, h1, h2, h3, h4⟩, q⟩ := h
    have ff := bd'.fk ds.tg (by decide)
    have ll1 : LL H0 sx (List.replicate 6 r') (List.replicate 6 [0]) := ⟨h3, pair_rep (c := [0]) h4 6⟩
    have ll2 : LL H0 p (List.replicate 7 r) (List.replicate 7 [0]) := ⟨h1, pair_rep (c := [0]) h2 7⟩
    show sE X' _ [some (.ref p), some (.int m), some (.ref sx)] H0 Q0
    leaf_len
    exact .inr (x_R (.len ⟨rfl, rfl, hm, ll1, ok_00 hm.1 (by decide)⟩ ⟨rfl, rfl, hm, ll2, ok_00 hm.1 (by decide)⟩ (by decide)) q)
  leaf_len
  have x612 : ExN H6 J12 := inferInstance
  have x012 : ExN H J12 := inferInstance
  have k12 := k6.upN x612.ex
  have t12 : LL J12 tw [ca, ca] [[0], [0]] := l6.upN x612.ex
  refine x_mkT fun bx dx c K1 K2 r1 r2 => ?_
  leaf_len
  refine e_meth cH ?_
  leaf_len
  refine x_meth rfl ?_
  leaf_len
  refine x_thought (cs := [[0], [0]]) (sd := [true, false]) (dx := dx) (c := c) (ws := [1]) ⟨by decide, by omega, by omega, by decide⟩ fun HX uX => ?_
  rw [th_m hm]
  leaf_len
  refine x_says ?_
  leaf_len
  refine iteF' (by rw [decide_eq_true rfl]; rfl) ?_
  leaf_len
  refine e_meth cH ?_
  leaf_len
  rename_i p20 M20 s20 p21 M21 s21
  refine x_mkT fun bx2 dx2 c2 K3 K4 r3 r4 => ?_
  refine x_meth rfl ?_
  leaf_len
  refine x_thought (cs := [[1]]) (sd := [true]) (dx := dx2) (c := c2) (ws := []) ⟨by decide, by decide, by decide, by decide⟩ fun HY uY => ?_
  rw [show thoughtP [[1]] 2 [true] 0 1 [] = true by decide +kernel]
  leaf_len
  refine x_says ?_
  leaf_len
  refine x_told (cs := [[0], [0]]) (sd := [true, true]) (by decide) (ok_00 (n := 2) (by decide) (by decide)) (tq fun xM HM uM fM jM => ?_)
  have e4 : nearP [[0], [0]] 2 [true, true] 0 = [0] := by decide +kernel
  cases jM with
  | nobody h e => rw [e4] at e; cases e
  | open_ h e => rw [e4] at e; cases e
  | @thought dx3 c3 n h hc fr e =>
    rw [e4] at e
    obtain rfl : (0 : Int) = n := (List.cons.inj e).1
    leaf_len
    refine x_marks (cs := [[0], [0]]) (by omega) ok2 fun p30 M30 s30 => ?_
    leaf_len
    rw [show decide (marksP [[0], [0]] 0 = [true, true]) = true by decide +kernel]
    exact q _ inferInstance inferInstance
end
/-! ### k09: _law_bad_right -/
theorem NotI.upN {p : Int → Prop} {H H' : Hp} {v : V} (e : LamX.ExtN H H') (h : NotI p H v) : NotI p H' v := by
  cases h with
  | kd h n => exact .kd (h.upN e) n
  | num e h => exact .num e h
theorem InV.upN {m : Int} {H H' : Hp} {v : V} {b : Bool} (e : LamX.ExtN H H') (h : InV m H v b) : InV m H' v b := by
  cases h with
  | kd h n => exact .kd (h.upN e) n
  | num e => exact .num e
theorem CardV.upN {m : Int} {H H' : Hp} {v : V} {b : Bool} (e : LamX.ExtN H H') (h : CardV m H v b) : CardV m H' v b := by
  cases h with
  | kd h n => exact .kd (h.upN e) n
  | row e1 h l i f => exact .row e1 (ExtN.l e h) l (fun z hz => (i z hz).upN e) f
  | num e1 h l i => exact .num e1 (ExtN.l e h) l i
theorem BadC.upN {m : Int} {H H' : Hp} {v : V} (e : LamX.ExtN H H') (h : BadC m H v) : BadC m H' v := by
  cases h with
  | kd h n => exact .kd (h.upN e) n
  | many e1 h l => exact .many e1 (ExtN.l e h) l
  | row e1 h l i f => exact .row e1 (ExtN.l e h) l (fun z hz => (i z hz).upN e) f
section
variable {P : Program} {w : World} {K : PySem.W.Frag} {mg : Str → Option Value} {base : Heap} {es : Es} {H H1 H2 : Hp} {f C cc : Addr} {nm qu : Str} {pa : Arguments} {bo : List Stmt} {sc : Scope} {cl : List (Str × Addr)} {b : Expr} {B : List Str} {v : V} {i : Int} {Q : VK} {E : XK}
/-- a lambda handed to _law_refused -/
theorem ref_ok (x : Str) (fr : List Str) (ws : List (Option V)) (G : List Str) (d : Nat) (Bad : Hp → V → Prop) (l : LamN H f ⟨nm, qu, pa, bo, sc, cl, cc⟩ b H1) [e : Exs H1 H2] (hc : lamC sc (x :: fr) [x] fr (x :: fr) G = true) (hB : ∀ y ∈ B, mg y = none)
    (bind : ∀ (pm ctv : Value) (u : Value), bindArgs (PySem.W.kla_fn "<lambda>" qu pa b sc cl pm (.ref cc) ctv) ⟨[u], []⟩ = pure [(x, u)])
    (body : ∀ X : Cx, Bd P w K mg base 4 X → Ck X sc (x :: fr) (x :: fr) [] G B → ∀ (v : V) (H : Hp) (Q : VK) (E : XK), Tk X (fun cls d _ H => E cls d H) → Bad H v → (∀ H', Up H H' → E (.ref C) none H') → sE X b (some v :: ws) H Q)
    (bad : Bad H2 v) (er : ErrAt K es d C) (ei : i = (d : Nat)) (q : ∀ H', Up H2 H' → Q (.bl true) H') : spRefG P w K mg base es cl fr ws [.ref f, v, .int i] H2 Q E := by
  refine ⟨f, v, d, C, Bad, _, b, by rw [ei], e.ex _ _ l.at_, e.ex _ _ l.co, rfl, okL (k := 4) (N := x :: fr) (ps := [x]) (R := x :: fr) (G := G) (B := B) hc hB (fun pm ctv us h => ?_) (fun ws vs H Q E ⟨_, v, e, _⟩ => by rw [e]; rfl) (fun X' bd' C' ws' vs H0 Q0 E0 t0' hw h => ?_), bad, er, q⟩
  · match us, h with
    | [u], _ => exact bind pm ctv u
  · obtain ⟨rfl, v, rfl, bd, q⟩ := h
    have z : NdefX.startF (x :: fr) [v] ws' = some v :: ws' := by
      unfold NdefX.startF
      rw [show (x :: fr).length - [v].length - ws'.length = 0 by simp only [List.length_cons, List.length_nil]; omega]
      simp
    rw [z]
    exact body X' bd' C' v H0 Q0 E0 t0' bd q
end
section
variable {H : Hp} {a : Addr} {v x y : V} {m : Int} {k : Kd} {xs : List V} {ns : List Int} {b1 b2 : Bool}
theorem bc_kd [h : Kc H v k] (n : k ≠ .lst := by intro z; cases z) : BadC m H v := .kd h.k n
theorem bc_1 (hA : H a = some (.lst [x])) (h : CardV m H x false) : BadC m H (.ref a) := .row (zs := [(x, false)]) rfl hA (Nat.le_of_ble_eq_true rfl) (fun z hz => by rw [List.mem_singleton.mp hz]; exact h) rfl
theorem bc_2 (hA : H a = some (.lst [x, y])) (h1 : CardV m H x b1) (h2 : CardV m H y b2) (e : (b1 && b2) = false) : BadC m H (.ref a) := .row (zs := [(x, b1), (y, b2)]) rfl hA (Nat.le_of_ble_eq_true rfl) (fun z hz => by
  simp only [List.mem_cons, List.not_mem_nil, or_false] at hz
  rcases hz with rfl | rfl
  · exact h1
  · exact h2) (by simpa using e)
theorem cv_kd [h : Kc H v k] (n : k ≠ .lst := by intro z; cases z) : CardV m H v false := .kd h.k n
theorem cv_n (hA : H a = some (.lst (ns.map V.int))) (l : ns.length ≤ 100) (h : ∀ n ∈ ns, 0 ≤ n ∧ n < m) (e : upB ns = b1) : CardV m H (.ref a) b1 := by rw [← e]; exact .num rfl hA l h
theorem cv_1 (hA : H a = some (.lst [x])) (h : InV m H x false) : CardV m H (.ref a) false := .row (zs := [(x, false)]) rfl hA (Nat.le_of_ble_eq_true rfl) (fun z hz => by rw [List.mem_singleton.mp hz]; exact h) rfl
end
section
variable {H : Hp} {a : Addr} {v x y : V} {m : Nat} {k k1 k2 : Kd} {xs : List V} {ns : List Int} {p : Int → Prop}
theorem ni_kd [h : Kc H v k] (n : (isI k && !isB k) = false := by rfl) : NotI p H v := .kd h.k n
theorem bs_kd [h : Kc H v k] (n : k ≠ .lst := by intro z; cases z) : BadS m H v := .kd h.k n
theorem bs_len [h : At H a (.lst xs)] (n : xs.length ≠ m) : BadS m H (.ref a) := .len rfl h.h n
theorem bs_2 [h : At H a (.lst [x, y])] [h1 : Kc H x k1] [h2 : Kc H y k2] (n : (isB k1 && isB k2) = false := by rfl) : BadS 2 H (.ref a) := .row (zs := [(x, isB k1), (y, isB k2)]) rfl h.h rfl (fun z hz => by
  simp only [List.mem_cons, List.not_mem_nil, or_false] at hz
  rcases hz with rfl | rfl
  · exact ⟨k1, h1.k, rfl⟩
  · exact ⟨k2, h2.k, rfl⟩) (by simpa using n)
theorem bo_kd [h : Kc H v k] (n : k ≠ .lst := by intro z; cases z) : BadO m H v := .kd h.k n
theorem bo_2 [h : At H a (.lst [x, y])] [h1 : Kc H x k1] [h2 : Kc H y k2] (n : ((isI k1 && !isB k1) && (isI k2 && !isB k2)) = false := by rfl) : BadO m H (.ref a) := .row (zs := [(x, isI k1 && !isB k1), (y, isI k2 && !isB k2)]) rfl h.h (Nat.le_of_ble_eq_true rfl) (fun z hz => by
  simp only [List.mem_cons, List.not_mem_nil, or_false] at hz
  rcases hz with rfl | rfl
  · exact ⟨k1, h1.k, rfl⟩
  · exact ⟨k2, h2.k, rfl⟩) (by simpa using n)
theorem bo_n (ns : List Int) [h : At H a (.lst xs)] (e : xs = ns.map V.int) (l : ns.length ≤ 50) (f : ns.length ≠ m ∨ ∃ k : Nat, k < m ∧ (k : Int) ∉ ns) : BadO m H (.ref a) := .num rfl (by rw [h.h, e]) l f
end
theorem BadO.upN {n : Nat} {H H' : Hp} {v : V} (e : LamX.ExtN H H') (h : BadO n H v) : BadO n H' v := by
  cases h with
  | kd h n => exact .kd (h.upN e) n
  | row e1 h l i f => exact .row e1 (ExtN.l e h) l (fun z hz => by obtain ⟨k, h1, h2⟩ := i z hz; exact ⟨k, h1.upN e, h2⟩) f
  | num e1 h l f => exact .num e1 (ExtN.l e h) l f
theorem ok_01' : CardsOk 16 [[0], [1]] := ⟨by decide, fun c hc => by
  simp only [List.mem_cons, List.not_mem_nil, or_false] at hc
  rcases hc with rfl | rfl <;> exact ⟨by decide, by decide, by decide⟩⟩
/-- a count, lies, and the kind of error that is due -/
structure RowF (K : PySem.W.Frag) (es : Es) (H : Hp) (v : V) : Prop where
  ex : ∃ (T : Addr) (m l : V) (d : Nat) (C : Addr), v = .ref T ∧ H T = some (.tup [m, l, .int (d : Nat)]) ∧ (∀ H0, RFew es.m es.l H0 [m, l] C) ∧ ErrAt K es d C
theorem row_f {K : PySem.W.Frag} {es : Es} {H : Hp} {T C : Addr} {m l : V} {i : Int} (d : Nat) [h : At H T (.tup [m, l, .int i])] (r : ∀ H0, RFew es.m es.l H0 [m, l] C) (e : ErrAt K es d C) (ei : i = (d : Nat) := by rfl) : RowF K es H (.ref T) := ⟨T, m, l, d, C, rfl, by rw [← ei]; exact h.h, r, e⟩
def cs12 : List (List Int) := (List.range 12).map fun (k : Nat) => [(k : Int) % 9, 9 + (k : Int) % 7]
theorem ok_12 : CardsOk 16 cs12 := ⟨by decide, fun c hc => by
  have z : ∀ c ∈ cs12, c.length ≤ 16 ∧ (∀ n ∈ c, 0 ≤ n ∧ n < 16) ∧ c.Pairwise (· < ·) := by decide +kernel
  obtain ⟨z1, z2, z3⟩ := z c hc
  exact ⟨z1, z2, z3⟩⟩
def spBadR (T : List (Addr × Str)) : Sp := fun vs H Q _ => ∃ m : Int, vs = [.int m] ∧ 0 ≤ m ∧ Tb T H ∧ ∀ H', Q (.bl true) H'
theorem x_badR {T : List (Addr × Str)} {H : Hp} {Q : VK} {E : XK} {m : Int} [t : Tb T H] (h : 0 ≤ m) (q : ∀ H', Q (.bl true) H') : spBadR T [.int m] H Q E := ⟨m, rfl, h, t, q⟩
/-- one card of the row is none -/
theorem bad_row {H : Hp} {D p : Addr} {rs : List Addr} {v : V} {s : Nat} (l : LL H D rs cs12) (hs : s < 12) (h : CardV 16 H v false) (hp : H p = some (.lst ((rs.map V.ref).take s ++ [v] ++ (rs.map V.ref).drop (s + 1)))) : BadC 16 H (.ref p) := by
  have hl : rs.length = 12 := l.len
  have good : ∀ r ∈ rs, CardV 16 H (.ref r) true := fun r hr => by
    obtain ⟨c, hc, hrow⟩ := pair_mem l.row hr
    have ok := ok_12.all c hc
    rw [← ok.upB]
    exact .num rfl hrow (by have := ok.len; omega) ok.wi
  refine .row (zs := ((rs.take s).map fun r => (V.ref r, true)) ++ [(v, false)] ++ ((rs.drop (s + 1)).map fun r => (V.ref r, true))) rfl ?_ ?_ ?_ ?_
  · rw [hp, List.map_append, List.map_append, List.map_map, List.map_map, ← List.map_take, ← List.map_drop]
    rfl
  · simp only [List.length_append, List.length_map, List.length_take, List.length_drop, List.length_cons, List.length_nil]
    omega
  · intro z hz
    rcases List.mem_append.mp hz with hz | hz
    · rcases List.mem_append.mp hz with hz | hz
      · obtain ⟨r, hr, rfl⟩ := List.mem_map.mp hz
        exact good r (List.mem_of_mem_take hr)
      · rw [List.mem_singleton.mp hz]
        exact h
    · obtain ⟨r, hr, rfl⟩ := List.mem_map.mp hz
      exact good r (List.mem_of_mem_drop hr)
  · simp
theorem bad_said {H : Hp} {p : Addr} {v : V} {k : Kd} {s : Nat} (hs : s < 12) (h : KdV H v k) (n : isB k = false) (hp : H p = some (.lst ((List.replicate 12 (V.bl true)).take s ++ [v] ++ (List.replicate 12 (V.bl true)).drop (s + 1)))) : BadS 12 H (.ref p) := by
  refine .row (zs := List.replicate s (V.bl true, true) ++ [(v, false)] ++ List.replicate (11 - s) (V.bl true, true)) rfl ?_ ?_ ?_ ?_
  · rw [hp, List.take_replicate, List.drop_replicate, List.map_append, List.map_append, List.map_replicate, List.map_replicate, Nat.min_eq_left (by omega), show 12 - (s + 1) = 11 - s by omega]
    rfl
  · simp only [List.length_append, List.length_replicate, List.length_cons, List.length_nil]
    omega
  · intro z hz
    rcases List.mem_append.mp hz with hz | hz
    · rcases List.mem_append.mp hz with hz | hz
      · rw [(List.mem_replicate.mp hz).2]
        exact ⟨.bl, .bl true, rfl⟩
      · rw [List.mem_singleton.mp hz]
        exact ⟨k, h, n⟩
    · rw [(List.mem_replicate.mp hz).2]
      exact ⟨.bl, .bl true, rfl⟩
  · simp
section
variable {P : Program} {w : World} {K : PySem.W.Frag} {mg : Str → Option Value} {base : Heap} {es : Es} {T : List (Addr × Str)}
theorem k_law_bad_right (F : Dfc K mg "_law_bad_right" s_law_bad_right p_law_bad_right) (mk : Mkr K mg base T "_law_bad_right") (hB : ∀ y ∈ bl, mg y = none) (kR : Kn P w K mg base 6 "_law_refused" p_law_refused (spRef P w K mg base es))
    (kG : ∀ cl fr ws, KnG P w K mg base 6 "_law_refused" p_law_refused (CellG cl fr ws) (spRefG P w K mg base es cl fr ws)) (ds : Doors9 P w K mg base es) (er : Errs K es) : Kn P w K mg base 7 "_law_bad_right" p_law_bad_right (spBadR T) := by
  refine okdM2 F mk d_law_bad_right hB (fun vs H Q E ⟨p, e, _⟩ => by rw [e]; rfl) fun X bd C lm fn vs H Q E t0 h => ?_
  obtain ⟨wh, rfl, hw, tb, q⟩ := h
  have ru := bd.ru
  have po := bd.po
  have kG' : ∀ fr ws cl, KnG X.prog X.w X.K X.mg X.base 6 "_law_refused" p_law_refused (CellG cl fr ws) (spRefG P w K mg base es cl fr ws) := fun fr ws cl => by
    rw [bd.pr, bd.w, bd.K, bd.mg, bd.base]
    exact kG cl _ _
  show sB X _ _ [some (.int wh), none, none, none, none, none, none, none, none, none, none] H
  refine b_tupW rfl ?_
  refine e_tup (a_cons ?_)
  refine e_lc1 10 r_law_bad_right_0 g_law_bad_right_0 (by decide +kernel) (i_r1 ?_)
  leaf_len
  refine y_r1 (by decide) ?_
  refine lcRN0 (fun _ => true) (fun k => [.int ((k : Int) % 9), .int (9 + (k : Int) % 7)]) rfl (by decide) (fun k hk Hc u => ?_) (fun D rs H1 n1 => ?_)
  · refine x_tp (tm0 fun X' s c => ?_)
    leaf_len
    rename_i a1 A1 m1
    exact x_endN m1.fr rfl
  replace n1 : NewLs H D rs (cs12.map fun c => c.map V.int) H1 := by
    rw [filter_true] at n1
    unfold cs12
    rw [List.map_map]
    exact n1
  leaf_len
  rename_i p2 H2 n2
  refine x_rep n2.at_ (by exact (show 1 * 12 ≤ 100000 by decide)) (by decide) (by decide) fun sd H3 n3 => ?_
  leaf_len
  rename_i p4 H4 n4
  have sd4 : At H4 sd (.lst (List.replicate 12 (V.bl true))) := ⟨n4.ex _ _ n3.at_⟩
  have ll4 : LL H4 D rs cs12 := inferInstance
  have tb4 : Tb T H4 := inferInstance
  clear n1 n2 n3 n4
  refine b_forL ?_
  leaf_len
  rename_i L H5 nL
  refine ⟨L, _, rfl, SqL.of nL.at_, fun i σ' H' => ∃ y3 y4 y5, σ' = [some (.int wh), some (.ref D), some (.ref sd), y3, y4, y5, none, none, none, none, none] ∧ Tb T H' ∧ ExN H5 H', ⟨_, _, _, rfl, inferInstance, inferInstance⟩, ?_, ?_, ?_⟩
  · rintro i σ' H' hi ⟨_, _, _, _, _, ex⟩
    exact SqL.of (ExtN.l ex.ex nL.at_)
  · rintro i v σ' H' hv ⟨y3, y4, y5, rfl, tb', ex⟩
    obtain ⟨sp, rfl, hsp⟩ : ∃ s : Nat, v = .int (s : Int) ∧ s < 12 := by
      match i, hv with
      | 0, hv => exact ⟨(wh % 12).toNat, by rw [← Option.some.inj hv, Int.toNat_of_nonneg (by omega)], by omega⟩
      | 1, hv => exact ⟨11, (Option.some.inj hv).symm, by decide⟩
      | 2, hv => exact ⟨0, (Option.some.inj hv).symm, by decide⟩
    have llx : LL H' D rs cs12 := (ll4.up nL.ex).upN ex.ex
    have sdx : At H' sd (.lst (List.replicate 12 (V.bl true))) := ⟨ExtN.l ex.ex (nL.ex _ _ sd4.h)⟩
    refine x_tp ?_
    leaf_len
    refine b_forL ?_
    leaf_len
    rename_i e1 I1 o1 e2 I2 o2 e3 I3 o3 e4 I4 o4 e5 I5 o5 e6 I6 o6 e7 I7 o7 L2 I8 o8
    obtain ⟨bs, hbs, bads⟩ : ∃ ys : List V, At I8 L2 (.lst ys) ∧ ∀ v ∈ ys, CardV 16 I8 v false := by
      refine ⟨_, ⟨o8.at_⟩, fun v hv => ?_⟩
      simp only [List.mem_cons, List.not_mem_nil, or_false] at hv
      rcases hv with rfl | rfl | rfl | rfl | rfl | rfl | rfl | rfl
      · have z : At I8 e1 (.lst [V.int 3, V.int 2]) := inferInstance
        exact cv_n (ns := [3, 2]) z.h (by decide) (by decide) (by decide)
      · have z : At I8 e2 (.lst [V.int 1, V.int 1]) := inferInstance
        exact cv_n (ns := [1, 1]) z.h (by decide) (by decide) (by decide)
      · have z : At I8 e3 (.lst [V.int 16]) := inferInstance
        exact cv_1 z.h (.num (i := 16) rfl)
      · have z : At I8 e4 (.lst [V.int (-1)]) := inferInstance
        exact cv_1 z.h (.num (i := -1) rfl)
      · have z : At I8 e5 (.lst [V.int 0, V.bl true]) := inferInstance
        exact .row (zs := [(V.int 0, true), (V.bl true, false)]) rfl z.h (by exact (show 2 ≤ 100 by decide)) (by
          intro z hz
          simp only [List.mem_cons, List.not_mem_nil, or_false] at hz
          rcases hz with rfl | rfl
          · exact .num (i := 0) rfl
          · exact .kd (.bl true) rfl) rfl
      · exact cv_kd
      · exact cv_kd
      · have z : At I8 e7 (.lst [V.str (Str.ofString "0")]) := inferInstance
        exact cv_1 z.h (.kd (.str _) rfl)
    have l8 : LL I8 D rs cs12 := inferInstance
    have s8 : At I8 sd (.lst (List.replicate 12 (V.bl true))) := inferInstance
    have t8 : Tb T I8 := inferInstance
    have x58 : ExN H5 I8 := ⟨ex.ex.trans (LamX.ExtN.of (show Ex H' I8 from Exs.ex))⟩
    clear o1 o2 o3 o4 o5 o6 o7 o8
    refine ⟨L2, bs, rfl, SqL.of hbs.h, fun i σ' Hx => ∃ y4 y5, σ' = [some (.int wh), some (.ref D), some (.ref sd), some (.int (sp : Int)), y4, y5, none, none, none, none, none] ∧ Tb T Hx ∧ ExN I8 Hx, ⟨_, _, rfl, inferInstance, inferInstance⟩, ?_, ?_, ?_⟩
    · rintro i σ' Hx hi ⟨_, _, _, _, ex⟩
      exact SqL.of (ExtN.l ex.ex hbs.h)
    · rintro i v σ' Hx hv ⟨y4', y5', rfl, tbx, exx⟩
      have bv : CardV 16 Hx v false := (bads v (List.mem_of_getElem? hv)).upN exx.ex
      have lx : LL Hx D rs cs12 := l8.upN exx.ex
      refine x_tp ?_
      leaf_len
      have hrl : rs.length = 12 := lx.len
      refine y_cat (by rw [List.length_take, List.length_map]; show min _ _ + 1 ≤ _; omega) fun p3 M3 g3 => ?_
      leaf_len
      rename_i p4 M4 g4
      refine y_cat (by simp only [List.length_append, List.length_take, List.length_map, List.length_drop, List.length_cons, List.length_nil]; omega) fun p5 M5 g5 => ?_
      rw [Int.toNat_natCast, show ((sp : Int) + 1).toNat = sp + 1 by omega] at g5
      have l5 : LL M5 D rs cs12 := inferInstance
      have e5 : Ex Hx M5 := Exs.ex
      have bad5 : BadC 16 M5 (.ref p5) := bad_row l5 hsp (bv.up e5) g5.at_
      leaf_len
      refine e_refC [] [] (kG' [] []) bd.rm fn rfl fun f c' M6 tb6 g6 => ?_
      leaf_len
      have b6 : BadC 16 M6 (.ref p5) := bad5.upN g6.ext
      refine ref_ok "_law_one" [] [] ["marks"] 1 (BadC 16) g6 (by decide +kernel) hB (fun _ _ _ => rfl) (fun X' bd' C' v H0 Q0 E0 t0' b q => ?_) b6 er.c rfl fun M7 u7 => ?_
      · have ff := bd'.fk ds.mr (by decide)
        leaf_len
        exact x_R (.cds (.cards rfl (by decide) b)) q
      leaf_len
      refine e_refC [] [] (kG' [] []) bd.rm fn rfl fun f2 c2 M8 tb8 g8 => ?_
      leaf_len
      have b8 : BadC 16 M8 (.ref p5) := (b6.up u7.ex).upN g8.ext
      refine ref_ok "_law_two" [] [] ["told"] 1 (BadC 16) g8 (by decide +kernel) hB (fun _ _ _ => rfl) (fun X' bd' C' v H0 Q0 E0 t0' b q => ?_) b8 er.c rfl fun M9 u9 => ?_
      · have ff := bd'.fk ds.tl (by decide)
        leaf_len
        exact x_R (.cds (.cards rfl (by decide) b)) q
      leaf_len
      have x59 : ExN Hx M9 := inferInstance
      exact ⟨_, _, rfl, inferInstance, ⟨exx.ex.trans x59.ex⟩⟩
    rintro σ' Hy ⟨y4', y5', rfl, tby, exy⟩
    have ly : LL Hy D rs cs12 := l8.upN exy.ex
    have sy : At Hy sd (.lst (List.replicate 12 (V.bl true))) := ⟨ExtN.l exy.ex s8.h⟩
    leaf_len
    refine b_forL ?_
    leaf_len
    rename_i L3 N1 w1
    refine ⟨L3, _, rfl, SqL.of w1.at_, fun i σ' Hx => ∃ y4 y5, σ' = [some (.int wh), some (.ref D), some (.ref sd), some (.int (sp : Int)), y4, y5, none, none, none, none, none] ∧ Tb T Hx ∧ ExN N1 Hx, ⟨_, _, rfl, inferInstance, inferInstance⟩, ?_, ?_, ?_⟩
    · rintro i σ' Hx hi ⟨_, _, _, _, ex⟩
      exact SqL.of (ExtN.l ex.ex w1.at_)
    · rintro i v σ' Hx hv ⟨y4', y5', rfl, tbx, exx⟩
      have bv : ∃ k, KdV Hx v k ∧ isB k = false := by
        match i, hv with
        | 0, hv => rw [← Option.some.inj hv]; exact ⟨_, .int _, rfl⟩
        | 1, hv => rw [← Option.some.inj hv]; exact ⟨_, .int _, rfl⟩
        | 2, hv => rw [← Option.some.inj hv]; exact ⟨_, .non, rfl⟩
        | 3, hv => rw [← Option.some.inj hv]; exact ⟨_, .str _, rfl⟩
      obtain ⟨kd, hk, hb⟩ := bv
      have lx : LL Hx D rs cs12 := (ly.up w1.ex).upN exx.ex
      have sx : At Hx sd (.lst (List.replicate 12 (V.bl true))) := ⟨ExtN.l exx.ex (w1.ex _ _ sy.h)⟩
      refine x_tp ?_
      leaf_len
      refine e_refC ["_law_cards"] [1] (kG' ["_law_cards"] [some (.ref D)]) bd.rm fn rfl fun f c' M1 tb1 g1 => ?_
      leaf_len
      rename_i p1 M2 g2 p2 M3 g3
      refine y_cat (by simp only [List.length_take, List.length_replicate, List.length_cons, List.length_nil]; omega) fun p3 M4 g4 => ?_
      leaf_len
      rename_i p4 M5 g5
      refine y_cat (by simp only [List.length_append, List.length_take, List.length_replicate, List.length_drop, List.length_cons, List.length_nil]; omega) fun p5 M6 g6 => ?_
      rw [Int.toNat_natCast, show ((sp : Int) + 1).toNat = sp + 1 by omega] at g6
      leaf_len
      have l1 : LL M1 D rs cs12 := lx.upN g1.ext
      have l6 : LL M6 D rs cs12 := inferInstance
      have e16 : Ex M1 M6 := Exs.ex
      have b6 : BadS 12 M6 (.ref p5) := bad_said hsp ((hk.upN g1.ext).up e16) hb g6.at_
      refine ref_ok "_law_some" ["_law_cards"] [some (.ref D)] ["told"] 3 (fun H v => BadS 12 H v ∧ LL H D rs cs12) g1 (by decide +kernel) hB (fun _ _ _ => rfl) (fun X' bd' C' v H0 Q0 E0 t0' b q => ?_) ⟨b6, l6⟩ er.s rfl fun M7 u7 => ?_
      · have ff := bd'.fk ds.tl (by decide)
        obtain ⟨b1, b2⟩ := b
        leaf_len
        exact x_R (.said ⟨rfl, rfl, by decide, b2, ok_12⟩ b1) q
      leaf_len
      have x7 : ExN Hx M7 := inferInstance
      exact ⟨_, _, rfl, inferInstance, ⟨exx.ex.trans x7.ex⟩⟩
    rintro σ' Hz ⟨y4', y5', rfl, tbz, exz⟩
    leaf_len
    exact ⟨_, _, _, rfl, inferInstance, ⟨((x58.ex.trans exy.ex).trans (LamX.ExtN.of w1.ex)).trans exz.ex⟩⟩
  rintro σ' H6 ⟨y3, y4, y5, rfl, tb6, ex6⟩
  have l6 : LL H6 D rs cs12 := (ll4.up nL.ex).upN ex6.ex
  have s6 : At H6 sd (.lst (List.replicate 12 (V.bl true))) := ⟨ExtN.l ex6.ex (nL.ex _ _ sd4.h)⟩
  have hrl : rs.length = 12 := l6.len
  leaf_len
  refine e_refC [] [] (kG' [] []) bd.rm fn rfl fun f c' M1 tb1 g1 => ?_
  have l1 : LL M1 D rs cs12 := l6.upN g1.ext
  leaf_len
  rename_i p1 M2 g2 p2 M3 g3
  refine y_cat (by simp only [List.length_map, List.length_cons, List.length_nil]; omega) fun p3 M4 g4 => ?_
  leaf_len
  refine ref_ok "_law_one" [] [] ["judged"] 1 (BadC 16) g1 (by decide +kernel) hB (fun _ _ _ => rfl) (fun X' bd' C' v H0 Q0 E0 t0' b q => ?_) (.many rfl g4.at_ (by simp only [List.length_append, List.length_map, List.length_cons, List.length_nil]; omega)) er.c rfl fun M5 u5 => ?_
  · have ff := bd'.fk ds.jd (by decide)
    leaf_len
    exact x_R (.cds (.cards rfl (by decide) b)) q
  leaf_len
  have l5 : LL M5 D rs cs12 := inferInstance
  have s5 : At M5 sd (.lst (List.replicate 12 (V.bl true))) := inferInstance
  have t5 : Tb T M5 := inferInstance
  clear g1 g2 g3 g4 u5
  refine e_refC ["_law_cards"] [1] (kG' ["_law_cards"] [some (.ref D)]) bd.rm fn rfl fun f2 c2 M6 tb6' g6 => ?_
  leaf_len
  rename_i p7 M7 g7
  have l6' : LL M6 D rs cs12 := l5.upN g6.ext
  have l7 : LL M7 D rs cs12 := inferInstance
  refine ref_ok "_law_some" ["_law_cards"] [some (.ref D)] ["told"] 3 (fun H v => BadS 12 H v ∧ LL H D rs cs12) g6 (by decide +kernel) hB (fun _ _ _ => rfl) (fun X' bd' C' v H0 Q0 E0 t0' b q => ?_) ⟨.len rfl g7.at_ (by exact (show 11 ≠ 12 by decide)), l7⟩ er.s rfl fun M8 u8 => ?_
  · have ff := bd'.fk ds.tl (by decide)
    obtain ⟨b1, b2⟩ := b
    leaf_len
    exact x_R (.said ⟨rfl, rfl, by decide, b2, ok_12⟩ b1) q
  have t8 : Tb T M8 := inferInstance
  clear g6 g7 u8 l6' l7 l5 s5 l6 s6 ll4 sd4
  leaf_len
  refine b_forL ?_
  leaf_len
  rename_i e1 I1 o1 e2 I2 o2 e3 I3 o3 e4 I4 o4 e5 I5 o5 L4 I6 o6
  obtain ⟨os, hos, ords⟩ : ∃ ys : List V, At I6 L4 (.lst ys) ∧ ∀ v ∈ ys, BadO 2 I6 v := by
    refine ⟨_, ⟨o6.at_⟩, fun v hv => ?_⟩
    simp only [List.mem_cons, List.not_mem_nil, or_false] at hv
    rcases hv with rfl | rfl | rfl | rfl | rfl | rfl
    · exact bo_2
    · exact bo_n [0, 0] rfl (by decide) (.inr ⟨1, by decide, by decide⟩)
    · exact bo_n [1, 2] rfl (by decide) (.inr ⟨0, by decide, by decide⟩)
    · exact bo_n [0] rfl (by decide) (.inl (by decide))
    · exact bo_kd
    · exact bo_kd
  have t6 : Tb T I6 := inferInstance
  clear o1 o2 o3 o4 o5 o6
  refine ⟨L4, os, rfl, SqL.of hos.h, fun i σ' Hx => ∃ y6, σ' = [some (.int wh), some (.ref D), some (.ref sd), y3, y4, y5, y6, none, none, none, none] ∧ Tb T Hx ∧ ExN I6 Hx, ⟨_, rfl, inferInstance, inferInstance⟩, ?_, ?_, ?_⟩
  · rintro i σ' Hx hi ⟨_, _, _, ex⟩
    exact SqL.of (ExtN.l ex.ex hos.h)
  · rintro i v σ' Hx hv ⟨y6, rfl, tbx, exx⟩
    have bv : BadO 2 Hx v := (ords v (List.mem_of_getElem? hv)).upN exx.ex
    refine x_tp ?_
    leaf_len
    refine e_refC [] [] (kG' [] []) bd.rm fn rfl fun f c' M1 tb1 g1 => ?_
    leaf_len
    refine ref_ok "_law_some" [] [] ["ordered"] 6 (BadO 2) g1 (by decide +kernel) hB (fun _ _ _ => rfl) (fun X' bd' C' v H0 Q0 E0 t0' b q => ?_) (bv.upN g1.ext) er.o rfl fun M2 u2 => ?_
    · have ff := bd'.fk ds.or_ (by decide)
      leaf_len
      exact .inr (x_R (.ord ⟨rfl, rfl, by decide, inferInstance, ok_01'⟩ (b.up Exs.ex)) (fun H' u' => q _ ⟨Exs.ex⟩))
    leaf_len
    have x7 : ExN Hx M2 := inferInstance
    exact ⟨_, rfl, inferInstance, ⟨exx.ex.trans x7.ex⟩⟩
  rintro σ' H7 ⟨y6, rfl, tb7, ex7⟩
  leaf_len
  refine b_forL3 ?_
  leaf_len
  rename_i e1 I1 o1 e2 I2 o2 e3 I3 o3 e4 I4 o4 e5 I5 o5 e7 I7 o7 L5 I8 o8
  obtain ⟨rws, hrw, rows⟩ : ∃ ys : List V, At I8 L5 (.lst ys) ∧ ∀ v ∈ ys, RowF K es I8 v := by
    refine ⟨_, ⟨o8.at_⟩, fun v hv => ?_⟩
    simp only [List.mem_cons, List.not_mem_nil, or_false] at hv
    rcases hv with rfl | rfl | rfl | rfl | rfl | rfl
    · exact row_f 4 (fun H => .lies (by decide) (.num rfl (by decide))) er.l
    · exact row_f 0 (fun H => .most (by decide)) er.m
    · exact row_f 0 (fun H => .many (.num rfl (by decide))) er.m
    · exact row_f 0 (fun H => .many (.kd (.bl true) rfl)) er.m
    · exact row_f 4 (fun H => .lies (by decide) (.kd (.bl true) rfl)) er.l
    · exact row_f 4 (fun H => .lies (by decide) (.num rfl (by decide))) er.l
  have t8' : Tb T I8 := inferInstance
  clear o1 o2 o3 o4 o5 o7 o8
  refine ⟨L5, rws, rfl, SqL.of hrw.h, fun i σ' Hx => ∃ y7 y8 y9, σ' = [some (.int wh), some (.ref D), some (.ref sd), y3, y4, y5, y6, y7, y8, y9, none] ∧ Tb T Hx ∧ ExN I8 Hx, ⟨_, _, _, rfl, inferInstance, inferInstance⟩, ?_, ?_, ?_⟩
  · rintro i σ' Hx hi ⟨_, _, _, _, _, ex⟩
    exact SqL.of (ExtN.l ex.ex hrw.h)
  · rintro i v σ' Hx hv ⟨y7, y8, y9, rfl, tbx, exx⟩
    obtain ⟨Tt, mv, lv, d, Cc, rfl, hT, hR, hE⟩ := (rows v (List.mem_of_getElem? hv)).ex
    have hT' : Hx Tt = some (.tup [mv, lv, .int (d : Nat)]) := exx.ex _ _ hT fun _ z => by cases z
    refine ⟨Tt, _, _, _, rfl, hT', x_p3 ?_⟩
    leaf_len
    refine e_refC [] [] (kG' [] []) bd.rm fn rfl fun f c' M1 tb1 g1 => ?_
    leaf_len
    rename_i pt M2 g2
    refine ref_ok "_law_pair" [] [] ["fewest"] d (fun H v => ∃ a, v = .ref a ∧ H a = some (.tup [mv, lv])) g1 (by decide +kernel) hB (fun _ _ _ => rfl) (fun X' bd' C' v H0 Q0 E0 t0' b q => ?_) ⟨pt, rfl, g2.at_⟩ hE rfl fun M3 u3 => ?_
    · have ff := bd'.fk ds.fw (by decide)
      obtain ⟨a, rfl, ha⟩ := b
      leaf_len
      refine x_ixT (n := 0) (v := mv) (SqT.of ha) rfl rfl ?_
      leaf_len
      refine x_ixT (n := 1) (v := lv) (SqT.of ha) rfl rfl ?_
      leaf_len
      exact .inr (x_R (hR H0) q)
    leaf_len
    have x7 : ExN Hx M3 := inferInstance
    exact ⟨_, _, _, rfl, inferInstance, ⟨exx.ex.trans x7.ex⟩⟩
  rintro σ' H8 ⟨y7, y8, y9, rfl, tb8, ex8⟩
  have fR := bd.fk kR (by decide)
  leaf_len
  refine e_lcT 4 r_law_bad_right_1 g_law_bad_right_1 (by decide +kernel) ?_
  leaf_len
  rename_i L6 I9 o9
  refine ⟨L6, _, rfl, o9.at_, by exact (show 5 ≤ 1000 by decide), inferInstance, fun x hx X' Hc s' c' lm' tbc exc => ?_, fun D9 H9 at9 tb9 ex9 => ?_⟩
  · have bx : NotI pBase Hc x := by
      simp only [List.mem_cons, List.not_mem_nil, or_false] at hx
      rcases hx with rfl | rfl | rfl | rfl | rfl
      · exact .num rfl (by decide)
      · exact .num rfl (by decide)
      · exact .kd (.bl true) rfl
      · exact .kd .non rfl
      · exact .num rfl (by decide)
    refine x_tp ?_
    leaf_len
    rename_i f c1 M1 tb1 g1
    refine ⟨f, x, 5, es.b, NotI pBase, rfl, okA "_law_base" ["made"] g1 (by decide +kernel) hB (fun _ _ _ => rfl) (fun X2 bd2 C2 v H0 Q0 E0 t2 b q => ?_), bx.upN g1.ext, er.b, fun M2 u2 => ⟨rfl, inferInstance, inferInstance⟩⟩
    have ff := bd2.fk ds.md (by decide)
    leaf_len
    exact x_R (.base (by decide) b) q
  · leaf_len
    exact q _
end
/-! ### k09: the law -/
def spLaw (K : PySem.W.Frag) (T : List (Addr × Str)) : Sp := fun vs H Q _ => ∃ (s : Addr) (ns : List Int), vs = [.ref s] ∧ Sq K H s (ns.map V.int) ∧ Tb T H ∧ ∀ H', Q (.bl true) H'
section
variable {P : Program} {w : World} {K : PySem.W.Frag} {mg : Str → Option Value} {base : Heap} {T : List (Addr × Str)}
theorem k_law {f : Addr} {fd : FuncData} (F : FunD K "law" "law" (defArgs s_law) (defBody s_law) (defScope s_law) [] [] f fd) (hB : ∀ y ∈ bl, mg y = none) (kA : Kn P w K mg base 7 "_law_apart_right" p_law_apart_right (spApart T)) (kL : Kn P w K mg base 5 "_law_lies_right" p_law_lies_right spFar) (kM : Kn P w K mg base 5 "_law_made_right" p_law_made_right spPlaces) (kH : Kn P w K mg base 5 "_law_hand_right" p_law_hand_right spYes) (kB : Kn P w K mg base 7 "_law_bad_right" p_law_bad_right (spBadR T)) : FnOk P w K mg base (L2N.CX P w) 8 f fd p_law (spLaw K T) := by
  refine okD F d_law hB (fun vs H Q E ⟨s, ns, e, _⟩ => by rw [e]; rfl) fun X bd C vs H Q E tk h => ?_
  obtain ⟨s, ns, rfl, hS, tb, q⟩ := h
  have f1 := bd.fk kA (by decide)
  have f2 := bd.fk kL (by decide)
  have f3 := bd.fk kM (by decide)
  have f4 := bd.fk kH (by decide)
  have f5 := bd.fk kB (by decide)
  have ru := bd.ru
  have po := bd.po
  rw [← bd.K] at hS
  show sB X _ _ [some (.ref s), none] H
  leaf_len
  generalize (List.take (63 : Int).toNat ns).sum.natAbs = wh
  refine x_apart (by omega) fun H1 tb1 ex1 => ?_
  leaf_len
  refine x_powO (by decide) ?_
  rw [show (10 : Int) ^ (20 : Int).toNat = 100000000000000000000 by decide]
  leaf_len
  refine x_far (by omega) fun H2 u2 => ?_
  leaf_len
  refine x_places (by omega) fun H3 u3 => ?_
  leaf_len
  refine x_yes fun H4 u4 => ?_
  leaf_len
  refine x_badR (by omega) fun H5 => ?_
  exact q _
end
/-! ### the head -/
def fnL : List He.DefD := [⟨("is_whole", none), "is_whole", "is_whole", defArgs s_is_whole, defBody s_is_whole, defScope s_is_whole, [], []⟩,
  ⟨("asked_many", none), "asked_many", "asked_many", defArgs s_asked_many, defBody s_asked_many, defScope s_asked_many, [], []⟩,
  ⟨("is_card", none), "is_card", "is_card", defArgs s_is_card, defBody s_is_card, defScope s_is_card, [], []⟩,
  ⟨("asked_cards", none), "asked_cards", "asked_cards", defArgs s_asked_cards, defBody s_asked_cards, defScope s_asked_cards, [], []⟩,
  ⟨("asked_number", none), "asked_number", "asked_number", defArgs s_asked_number, defBody s_asked_number, defScope s_asked_number, [], []⟩,
  ⟨("asked_lies", none), "asked_lies", "asked_lies", defArgs s_asked_lies, defBody s_asked_lies, defScope s_asked_lies, [], []⟩,
  ⟨("marks_of", none), "marks_of", "marks_of", defArgs s_marks_of, defBody s_marks_of, defScope s_marks_of, [], []⟩,
  ⟨("marks", none), "marks", "marks", defArgs s_marks, defBody s_marks, defScope s_marks, [], []⟩,
  ⟨("unlike", none), "unlike", "unlike", defArgs s_unlike, defBody s_unlike, defScope s_unlike, [], []⟩,
  ⟨("together", none), "together", "together", defArgs s_together, defBody s_together, defScope s_together, [], []⟩,
  ⟨("ordered", none), "ordered", "ordered", defArgs s_ordered, defBody s_ordered, defScope s_ordered, [], []⟩,
  ⟨("near", none), "near", "near", defArgs s_near, defBody s_near, defScope s_near, [], []⟩,
  ⟨("judged", none), "judged", "judged", defArgs s_judged, defBody s_judged, defScope s_judged, [], []⟩,
  ⟨("told", none), "told", "told", defArgs s_told, defBody s_told, defScope s_told, [], []⟩,
  ⟨("made", none), "made", "made", defArgs s_made, defBody s_made, defScope s_made, [], []⟩,
  ⟨("fewest_of", none), "fewest_of", "fewest_of", defArgs s_fewest_of, defBody s_fewest_of, defScope s_fewest_of, [], []⟩,
  ⟨("fewest", none), "fewest", "fewest", defArgs s_fewest, defBody s_fewest, defScope s_fewest, [], []⟩,
  ⟨("best", none), "best", "best", defArgs s_best, defBody s_best, defScope s_best, [], []⟩,
  ⟨("_law_refused", none), "_law_refused", "_law_refused", defArgs s_law_refused, defBody s_law_refused, defScope s_law_refused, [], []⟩,
  ⟨("_law_says", none), "_law_says", "_law_says", defArgs s_law_says, defBody s_law_says, defScope s_law_says, [], []⟩,
  ⟨("_law_apart_right", none), "_law_apart_right", "_law_apart_right", defArgs s_law_apart_right, defBody s_law_apart_right, defScope s_law_apart_right, [], []⟩,
  ⟨("_law_lies_right", none), "_law_lies_right", "_law_lies_right", defArgs s_law_lies_right, defBody s_law_lies_right, defScope s_law_lies_right, [], []⟩,
  ⟨("_law_made_right", none), "_law_made_right", "_law_made_right", defArgs s_law_made_right, defBody s_law_made_right, defScope s_law_made_right, [], []⟩,
  ⟨("_law_hand_right", none), "_law_hand_right", "_law_hand_right", defArgs s_law_hand_right, defBody s_law_hand_right, defScope s_law_hand_right, [], []⟩,
  ⟨("_law_bad_right", none), "_law_bad_right", "_law_bad_right", defArgs s_law_bad_right, defBody s_law_bad_right, defScope s_law_bad_right, [], []⟩,
  ⟨("law", none), "law", "law", defArgs s_law, defBody s_law, defScope s_law, [], []⟩,
  ⟨("Tells", some "shows"), "shows", "Tells.shows", defArgs s_Tells_shows, defBody s_Tells_shows, defScope s_Tells_shows, [], []⟩,
  ⟨("Alike", some "__init__"), "__init__", "Alike.__init__", defArgs s_Alike_init, defBody s_Alike_init, defScope s_Alike_init, [], []⟩,
  ⟨("Alike", some "shows"), "shows", "Alike.shows", defArgs s_Alike_shows, defBody s_Alike_shows, defScope s_Alike_shows, [], []⟩,
  ⟨("Thought", some "__init__"), "__init__", "Thought.__init__", defArgs s_Thought_init, defBody s_Thought_init, defScope s_Thought_init, [], []⟩,
  ⟨("Thought", some "shows"), "shows", "Thought.shows", defArgs s_Thought_shows, defBody s_Thought_shows, defScope s_Thought_shows, [], []⟩,
  ⟨("Open", some "__init__"), "__init__", "Open.__init__", defArgs s_Open_init, defBody s_Open_init, defScope s_Open_init, [], []⟩,
  ⟨("Open", some "shows"), "shows", "Open.shows", defArgs s_Open_shows, defBody s_Open_shows, defScope s_Open_shows, [], []⟩,
  ⟨("Nobody", some "shows"), "shows", "Nobody.shows", defArgs s_Nobody_shows, defBody s_Nobody_shows, defScope s_Nobody_shows, [], []⟩]
def faL : List He.Fa := ([.glo "is_whole", .glo "asked_many", .glo "is_card", .glo "asked_cards", .glo "asked_number", .glo "asked_lies", .glo "marks_of", .glo "marks", .glo "unlike", .glo "together", .glo "ordered", .glo "near", .glo "judged", .glo "told", .glo "made", .glo "fewest_of", .glo "fewest", .glo "best", .glo "_law_refused", .glo "_law_says", .glo "_law_apart_right", .glo "_law_lies_right", .glo "_law_made_right", .glo "_law_hand_right", .glo "_law_bad_right", .glo "law"] : List He.Fa) ++ bl.map He.Fa.free ++ ([.int "MOST" 16, .int "MOST_CARDS" 12, .glo "Tells", .glo "Alike", .glo "Thought", .glo "Open", .glo "Nobody", .glo "Answer", .cls "Tells", .cls "Alike", .noat "Alike" "one", .noat "Alike" "other", .cls "Thought", .noat "Thought" "number", .noat "Thought" "cards", .cls "Open", .noat "Open" "one", .noat "Open" "other", .cls "Nobody", .meth "Tells" "shows", .meth "Alike" "__init__", .meth "Alike" "shows", .meth "Thought" "__init__", .meth "Thought" "shows", .meth "Open" "__init__", .meth "Open" "shows", .meth "Nobody" "shows", .glo "BadMany", .glo "BadCards", .glo "BadNumber", .glo "BadSaid", .glo "BadLies", .glo "BadBase", .glo "BadOrder", .glo "TooMany", .glo "CardError", .exc "BadMany", .exc "BadCards", .exc "BadNumber", .exc "BadSaid", .exc "BadLies", .exc "BadBase", .exc "BadOrder", .exc "TooMany", .exm "BadMany" "CardError" true, .exm "BadCards" "CardError" true, .exm "BadNumber" "CardError" true, .exm "BadSaid" "CardError" true, .exm "BadLies" "CardError" true, .exm "BadBase" "CardError" true, .exm "BadOrder" "CardError" true, .exm "TooMany" "CardError" true, .glo "CODE"] : List He.Fa)
def exL (K : PySem.W.Frag) : Bool := ([clsB K "Tells", clsB K "Alike", clsB K "Thought", clsB K "Open", clsB K "Nobody", bareB K "Tells", bareB K "Nobody", kiB K "Tells" "Answer" true, kiB K "Tells" "Tells" true, kiB K "Tells" "Alike" false, kiB K "Tells" "Thought" false, kiB K "Tells" "Open" false, kiB K "Tells" "Nobody" false, kiB K "Alike" "Answer" true, kiB K "Alike" "Tells" false, kiB K "Alike" "Alike" true, kiB K "Alike" "Thought" false, kiB K "Alike" "Open" false, kiB K "Alike" "Nobody" false, kiB K "Thought" "Answer" true, kiB K "Thought" "Tells" false, kiB K "Thought" "Alike" false, kiB K "Thought" "Thought" true, kiB K "Thought" "Open" false, kiB K "Thought" "Nobody" false, kiB K "Open" "Answer" true, kiB K "Open" "Tells" false, kiB K "Open" "Alike" false, kiB K "Open" "Thought" false, kiB K "Open" "Open" true, kiB K "Open" "Nobody" false, kiB K "Nobody" "Answer" true, kiB K "Nobody" "Tells" false, kiB K "Nobody" "Alike" false, kiB K "Nobody" "Thought" false, kiB K "Nobody" "Open" false, kiB K "Nobody" "Nobody" true, errB K "BadMany", kvB K "BadMany", keB K "BadMany" "BadMany" true, keB K "BadMany" "BadCards" false, keB K "BadMany" "BadNumber" false, keB K "BadMany" "BadSaid" false, keB K "BadMany" "BadLies" false, keB K "BadMany" "BadBase" false, keB K "BadMany" "BadOrder" false, keB K "BadMany" "TooMany" false, errB K "BadCards", kvB K "BadCards", keB K "BadCards" "BadMany" false, keB K "BadCards" "BadCards" true, keB K "BadCards" "BadNumber" false, keB K "BadCards" "BadSaid" false, keB K "BadCards" "BadLies" false, keB K "BadCards" "BadBase" false, keB K "BadCards" "BadOrder" false, keB K "BadCards" "TooMany" false, errB K "BadNumber", kvB K "BadNumber", keB K "BadNumber" "BadMany" false, keB K "BadNumber" "BadCards" false, keB K "BadNumber" "BadNumber" true, keB K "BadNumber" "BadSaid" false, keB K "BadNumber" "BadLies" false, keB K "BadNumber" "BadBase" false, keB K "BadNumber" "BadOrder" false, keB K "BadNumber" "TooMany" false, errB K "BadSaid", kvB K "BadSaid", keB K "BadSaid" "BadMany" false, keB K "BadSaid" "BadCards" false, keB K "BadSaid" "BadNumber" false, keB K "BadSaid" "BadSaid" true, keB K "BadSaid" "BadLies" false, keB K "BadSaid" "BadBase" false, keB K "BadSaid" "BadOrder" false, keB K "BadSaid" "TooMany" false, errB K "BadLies", kvB K "BadLies", keB K "BadLies" "BadMany" false, keB K "BadLies" "BadCards" false, keB K "BadLies" "BadNumber" false, keB K "BadLies" "BadSaid" false, keB K "BadLies" "BadLies" true, keB K "BadLies" "BadBase" false, keB K "BadLies" "BadOrder" false, keB K "BadLies" "TooMany" false, errB K "BadBase", kvB K "BadBase", keB K "BadBase" "BadMany" false, keB K "BadBase" "BadCards" false, keB K "BadBase" "BadNumber" false, keB K "BadBase" "BadSaid" false, keB K "BadBase" "BadLies" false, keB K "BadBase" "BadBase" true, keB K "BadBase" "BadOrder" false, keB K "BadBase" "TooMany" false, errB K "BadOrder", kvB K "BadOrder", keB K "BadOrder" "BadMany" false, keB K "BadOrder" "BadCards" false, keB K "BadOrder" "BadNumber" false, keB K "BadOrder" "BadSaid" false, keB K "BadOrder" "BadLies" false, keB K "BadOrder" "BadBase" false, keB K "BadOrder" "BadOrder" true, keB K "BadOrder" "TooMany" false, errB K "TooMany", kvB K "TooMany", keB K "TooMany" "BadMany" false, keB K "TooMany" "BadCards" false, keB K "TooMany" "BadNumber" false, keB K "TooMany" "BadSaid" false, keB K "TooMany" "BadLies" false, keB K "TooMany" "BadBase" false, keB K "TooMany" "BadOrder" false, keB K "TooMany" "TooMany" true, decide (He.tabOf K (He.codeOf K ("_law_apart_right", none)) ≠ He.tabOf K (He.codeOf K ("_law_bad_right", none))), cdB K "CODE" codeP] : List Bool).all id
abbrev lawL : Nat := 25
abbrev RwL : PySem.W.OpenRow := PySem.W.OpenLaw.row PySem.Challenge.rw_thoughtcards_k09_whole_known
def tfL : List He.Defn := [("_law_apart_right", none), ("_law_bad_right", none)]
abbrev hkL : PySem.W.Hook := He.hookX 6 faL fnL [] tfL exL
def obL (s : PySem.W.SharedT) : He.AlX := He.obsX 6 faL fnL [] tfL exL (HandSHeadRun.getT s)
theorem obL_eq (s : PySem.W.SharedT) : obL s = hkL.obs s.abs := He.obsX_eq (HandSHeadRun.getT_eq s)
def looseL : List PySem.Str := (["CardError", "BadMany", "BadCards", "BadNumber", "BadSaid", "BadLies", "BadBase", "BadOrder", "TooMany", "MOST", "MOST_CARDS", "is_whole", "asked_many", "is_card", "asked_cards", "asked_number", "asked_lies", "marks_of", "marks", "unlike", "together", "ordered", "Answer", "Tells", "Alike", "near", "Thought", "Open", "Nobody", "CODE"] : List PySem.Str) ++ (["judged", "told", "made", "fewest_of", "fewest", "best", "_law_refused", "_law_says", "_law_apart_right", "_law_lies_right", "_law_made_right", "_law_hand_right", "_law_bad_right"] : List PySem.Str)
theorem runL (w : World) : HandSHeadRun.RunEq RwL (PySem.W.view RwL.prog [48]) hkL obL 6000 looseL w := by
  intro os
  kernel_rfl
theorem bl_free {K : PySem.W.Frag} {h : Heap} {mg : Str → Option Value} (X : K.In h) (G : h.Ns mainGlobals mg) (c : He.SaysD faL fnL K) : ∀ y ∈ bl, mg y = none := fun y hy =>
  He.free_ok X G (c.facts (f := .free y) (List.mem_append.mpr (.inl (List.mem_append.mpr (.inr (List.mem_map.mpr ⟨y, hy, rfl⟩))))))
theorem df_of {K : PySem.W.Frag} {h : Heap} {mg : Str → Option Value} (X : K.In h) (G : h.Ns mainGlobals mg) (c : He.SaysD faL fnL K) {x : Str} {st : Stmt} {ps : List Str} (i : Nat) (hi : fnL[i]? = some ⟨(x, none), x, x, defArgs st, defBody st, defScope st, [], []⟩) (hf : faL[i]? = some (.glo x))
    (hb : ∀ (kV doc pm : Value) (an : Option Addr) (cdv ct : Value) (us : List Value), us.length = ps.length → bindArgs (PySem.W.fnOf x x (defArgs st) (defBody st) (defScope st) .none kV doc pm an cdv ct) ⟨us, []⟩ = pure (ps.zip us)) : Df K mg x st ps := by
  obtain ⟨fd, F⟩ := c.def_ i hi
  exact ⟨_, fd, F, He.glo_ok X G (c.fact i hf), FunD.bindsN F hb⟩
theorem dfc_of {K : PySem.W.Frag} {h : Heap} {mg : Str → Option Value} (X : K.In h) (G : h.Ns mainGlobals mg) (c : He.SaysD faL fnL K) {x : Str} {st : Stmt} {ps : List Str} (i : Nat) (hi : fnL[i]? = some ⟨(x, none), x, x, defArgs st, defBody st, defScope st, [], []⟩) (hf : faL[i]? = some (.glo x))
    (hb : ∀ (kV doc pm : Value) (an : Option Addr) (cdv ct : Value) (us : List Value), us.length = ps.length → bindArgs (PySem.W.fnOf x x (defArgs st) (defBody st) (defScope st) .none kV doc pm an cdv ct) ⟨us, []⟩ = pure (ps.zip us)) : Dfc K mg x st ps := by
  obtain ⟨fd, F⟩ := c.def_ i hi
  exact ⟨fd, F, He.glo_ok X G (c.fact i hf), FunD.bindsN F hb⟩
theorem df_is_whole {K : PySem.W.Frag} {h : Heap} {mg : Str → Option Value} (X : K.In h) (G : h.Ns mainGlobals mg) (c : He.SaysD faL fnL K) : Df K mg "is_whole" s_is_whole p_is_whole := df_of X G c 0 rfl rfl fun _ _ _ _ _ _ us hl => match us, hl with | [_], _ => rfl
theorem df_asked_many {K : PySem.W.Frag} {h : Heap} {mg : Str → Option Value} (X : K.In h) (G : h.Ns mainGlobals mg) (c : He.SaysD faL fnL K) : Df K mg "asked_many" s_asked_many p_asked_many := df_of X G c 1 rfl rfl fun _ _ _ _ _ _ us hl => match us, hl with | [_], _ => rfl
theorem df_is_card {K : PySem.W.Frag} {h : Heap} {mg : Str → Option Value} (X : K.In h) (G : h.Ns mainGlobals mg) (c : He.SaysD faL fnL K) : Df K mg "is_card" s_is_card p_is_card := df_of X G c 2 rfl rfl fun _ _ _ _ _ _ us hl => match us, hl with | [_, _], _ => rfl
theorem df_asked_cards {K : PySem.W.Frag} {h : Heap} {mg : Str → Option Value} (X : K.In h) (G : h.Ns mainGlobals mg) (c : He.SaysD faL fnL K) : Df K mg "asked_cards" s_asked_cards p_asked_cards := df_of X G c 3 rfl rfl fun _ _ _ _ _ _ us hl => match us, hl with | [_, _], _ => rfl
theorem df_asked_number {K : PySem.W.Frag} {h : Heap} {mg : Str → Option Value} (X : K.In h) (G : h.Ns mainGlobals mg) (c : He.SaysD faL fnL K) : Df K mg "asked_number" s_asked_number p_asked_number := df_of X G c 4 rfl rfl fun _ _ _ _ _ _ us hl => match us, hl with | [_, _], _ => rfl
theorem df_asked_lies {K : PySem.W.Frag} {h : Heap} {mg : Str → Option Value} (X : K.In h) (G : h.Ns mainGlobals mg) (c : He.SaysD faL fnL K) : Df K mg "asked_lies" s_asked_lies p_asked_lies := df_of X G c 5 rfl rfl fun _ _ _ _ _ _ us hl => match us, hl with | [_], _ => rfl
theorem df_marks_of {K : PySem.W.Frag} {h : Heap} {mg : Str → Option Value} (X : K.In h) (G : h.Ns mainGlobals mg) (c : He.SaysD faL fnL K) : Df K mg "marks_of" s_marks_of p_marks_of := df_of X G c 6 rfl rfl fun _ _ _ _ _ _ us hl => match us, hl with | [_, _], _ => rfl
theorem df_marks {K : PySem.W.Frag} {h : Heap} {mg : Str → Option Value} (X : K.In h) (G : h.Ns mainGlobals mg) (c : He.SaysD faL fnL K) : Df K mg "marks" s_marks p_marks := df_of X G c 7 rfl rfl fun _ _ _ _ _ _ us hl => match us, hl with | [_, _, _], _ => rfl
theorem df_unlike {K : PySem.W.Frag} {h : Heap} {mg : Str → Option Value} (X : K.In h) (G : h.Ns mainGlobals mg) (c : He.SaysD faL fnL K) : Df K mg "unlike" s_unlike p_unlike := df_of X G c 8 rfl rfl fun _ _ _ _ _ _ us hl => match us, hl with | [_, _], _ => rfl
theorem df_together {K : PySem.W.Frag} {h : Heap} {mg : Str → Option Value} (X : K.In h) (G : h.Ns mainGlobals mg) (c : He.SaysD faL fnL K) : Df K mg "together" s_together p_together := df_of X G c 9 rfl rfl fun _ _ _ _ _ _ us hl => match us, hl with | [_, _, _], _ => rfl
theorem df_ordered {K : PySem.W.Frag} {h : Heap} {mg : Str → Option Value} (X : K.In h) (G : h.Ns mainGlobals mg) (c : He.SaysD faL fnL K) : Df K mg "ordered" s_ordered p_ordered := df_of X G c 10 rfl rfl fun _ _ _ _ _ _ us hl => match us, hl with | [_, _, _], _ => rfl
theorem df_near {K : PySem.W.Frag} {h : Heap} {mg : Str → Option Value} (X : K.In h) (G : h.Ns mainGlobals mg) (c : He.SaysD faL fnL K) : Df K mg "near" s_near p_near := df_of X G c 11 rfl rfl fun _ _ _ _ _ _ us hl => match us, hl with | [_, _, _, _], _ => rfl
theorem df_judged {K : PySem.W.Frag} {h : Heap} {mg : Str → Option Value} (X : K.In h) (G : h.Ns mainGlobals mg) (c : He.SaysD faL fnL K) : Df K mg "judged" s_judged p_judged := df_of X G c 12 rfl rfl fun _ _ _ _ _ _ us hl => match us, hl with | [_, _, _], _ => rfl
theorem df_told {K : PySem.W.Frag} {h : Heap} {mg : Str → Option Value} (X : K.In h) (G : h.Ns mainGlobals mg) (c : He.SaysD faL fnL K) : Df K mg "told" s_told p_told := df_of X G c 13 rfl rfl fun _ _ _ _ _ _ us hl => match us, hl with | [_, _, _, _], _ => rfl
theorem df_made {K : PySem.W.Frag} {h : Heap} {mg : Str → Option Value} (X : K.In h) (G : h.Ns mainGlobals mg) (c : He.SaysD faL fnL K) : Df K mg "made" s_made p_made := df_of X G c 14 rfl rfl fun _ _ _ _ _ _ us hl => match us, hl with | [_, _], _ => rfl
theorem df_fewest_of {K : PySem.W.Frag} {h : Heap} {mg : Str → Option Value} (X : K.In h) (G : h.Ns mainGlobals mg) (c : He.SaysD faL fnL K) : Df K mg "fewest_of" s_fewest_of p_fewest_of := df_of X G c 15 rfl rfl fun _ _ _ _ _ _ us hl => match us, hl with | [_, _], _ => rfl
theorem df_fewest {K : PySem.W.Frag} {h : Heap} {mg : Str → Option Value} (X : K.In h) (G : h.Ns mainGlobals mg) (c : He.SaysD faL fnL K) : Df K mg "fewest" s_fewest p_fewest := df_of X G c 16 rfl rfl fun _ _ _ _ _ _ us hl => match us, hl with | [_, _], _ => rfl
theorem df_best {K : PySem.W.Frag} {h : Heap} {mg : Str → Option Value} (X : K.In h) (G : h.Ns mainGlobals mg) (c : He.SaysD faL fnL K) : Df K mg "best" s_best p_best := df_of X G c 17 rfl rfl fun _ _ _ _ _ _ us hl => match us, hl with | [_, _], _ => rfl
theorem df_law_refused {K : PySem.W.Frag} {h : Heap} {mg : Str → Option Value} (X : K.In h) (G : h.Ns mainGlobals mg) (c : He.SaysD faL fnL K) : Df K mg "_law_refused" s_law_refused p_law_refused := df_of X G c 18 rfl rfl fun _ _ _ _ _ _ us hl => match us, hl with | [_, _, _], _ => rfl
theorem df_law_says {K : PySem.W.Frag} {h : Heap} {mg : Str → Option Value} (X : K.In h) (G : h.Ns mainGlobals mg) (c : He.SaysD faL fnL K) : Df K mg "_law_says" s_law_says p_law_says := df_of X G c 19 rfl rfl fun _ _ _ _ _ _ us hl => match us, hl with | [_, _], _ => rfl
theorem dfc_law_apart_right {K : PySem.W.Frag} {h : Heap} {mg : Str → Option Value} (X : K.In h) (G : h.Ns mainGlobals mg) (c : He.SaysD faL fnL K) : Dfc K mg "_law_apart_right" s_law_apart_right p_law_apart_right := dfc_of X G c 20 rfl rfl fun _ _ _ _ _ _ us hl => match us, hl with | [_], _ => rfl
theorem df_law_apart_right {K : PySem.W.Frag} {h : Heap} {mg : Str → Option Value} (X : K.In h) (G : h.Ns mainGlobals mg) (c : He.SaysD faL fnL K) : Df K mg "_law_apart_right" s_law_apart_right p_law_apart_right := df_of X G c 20 rfl rfl fun _ _ _ _ _ _ us hl => match us, hl with | [_], _ => rfl
theorem df_law_lies_right {K : PySem.W.Frag} {h : Heap} {mg : Str → Option Value} (X : K.In h) (G : h.Ns mainGlobals mg) (c : He.SaysD faL fnL K) : Df K mg "_law_lies_right" s_law_lies_right p_law_lies_right := df_of X G c 21 rfl rfl fun _ _ _ _ _ _ us hl => match us, hl with | [_], _ => rfl
theorem df_law_made_right {K : PySem.W.Frag} {h : Heap} {mg : Str → Option Value} (X : K.In h) (G : h.Ns mainGlobals mg) (c : He.SaysD faL fnL K) : Df K mg "_law_made_right" s_law_made_right p_law_made_right := df_of X G c 22 rfl rfl fun _ _ _ _ _ _ us hl => match us, hl with | [_], _ => rfl
theorem df_law_hand_right {K : PySem.W.Frag} {h : Heap} {mg : Str → Option Value} (X : K.In h) (G : h.Ns mainGlobals mg) (c : He.SaysD faL fnL K) : Df K mg "_law_hand_right" s_law_hand_right p_law_hand_right := df_of X G c 23 rfl rfl fun _ _ _ _ _ _ us hl => match us, hl with | [], _ => rfl
theorem dfc_law_bad_right {K : PySem.W.Frag} {h : Heap} {mg : Str → Option Value} (X : K.In h) (G : h.Ns mainGlobals mg) (c : He.SaysD faL fnL K) : Dfc K mg "_law_bad_right" s_law_bad_right p_law_bad_right := dfc_of X G c 24 rfl rfl fun _ _ _ _ _ _ us hl => match us, hl with | [_], _ => rfl
theorem df_law_bad_right {K : PySem.W.Frag} {h : Heap} {mg : Str → Option Value} (X : K.In h) (G : h.Ns mainGlobals mg) (c : He.SaysD faL fnL K) : Df K mg "_law_bad_right" s_law_bad_right p_law_bad_right := df_of X G c 24 rfl rfl fun _ _ _ _ _ _ us hl => match us, hl with | [_], _ => rfl
theorem df_law {K : PySem.W.Frag} {h : Heap} {mg : Str → Option Value} (X : K.In h) (G : h.Ns mainGlobals mg) (c : He.SaysD faL fnL K) : Df K mg "law" s_law p_law := df_of X G c 25 rfl rfl fun _ _ _ _ _ _ us hl => match us, hl with | [_], _ => rfl
theorem fact_L {K : PySem.W.Frag} (c : He.SaysD faL fnL K) (i : Nat) {f : He.Fa} (h : faL[i]? = some f) : f.ok K = true := c.fact i h
theorem gm_MOST {K : PySem.W.Frag} {h : Heap} {mg : Str → Option Value} (X : K.In h) (G : h.Ns mainGlobals mg) (c : He.SaysD faL fnL K) : Gm mg "MOST" (.int 16) := by
  obtain ⟨t, e⟩ := He.int_ok X G (c.facts (f := .int "MOST" 16) (List.mem_append.mpr (.inr (by simp))))
  exact ⟨_, e, ⟨t, rfl⟩⟩
theorem gm_MOST_CARDS {K : PySem.W.Frag} {h : Heap} {mg : Str → Option Value} (X : K.In h) (G : h.Ns mainGlobals mg) (c : He.SaysD faL fnL K) : Gm mg "MOST_CARDS" (.int 12) := by
  obtain ⟨t, e⟩ := He.int_ok X G (c.facts (f := .int "MOST_CARDS" 12) (List.mem_append.mpr (.inr (by simp))))
  exact ⟨_, e, ⟨t, rfl⟩⟩
theorem fx_L {K : PySem.W.Frag} (c : He.SaysD faL fnL K) {f : He.Fa} (h : f ∈ ([.int "MOST" 16, .int "MOST_CARDS" 12, .glo "Tells", .glo "Alike", .glo "Thought", .glo "Open", .glo "Nobody", .glo "Answer", .cls "Tells", .cls "Alike", .noat "Alike" "one", .noat "Alike" "other", .cls "Thought", .noat "Thought" "number", .noat "Thought" "cards", .cls "Open", .noat "Open" "one", .noat "Open" "other", .cls "Nobody", .meth "Tells" "shows", .meth "Alike" "__init__", .meth "Alike" "shows", .meth "Thought" "__init__", .meth "Thought" "shows", .meth "Open" "__init__", .meth "Open" "shows", .meth "Nobody" "shows", .glo "BadMany", .glo "BadCards", .glo "BadNumber", .glo "BadSaid", .glo "BadLies", .glo "BadBase", .glo "BadOrder", .glo "TooMany", .glo "CardError", .exc "BadMany", .exc "BadCards", .exc "BadNumber", .exc "BadSaid", .exc "BadLies", .exc "BadBase", .exc "BadOrder", .exc "TooMany", .exm "BadMany" "CardError" true, .exm "BadCards" "CardError" true, .exm "BadNumber" "CardError" true, .exm "BadSaid" "CardError" true, .exm "BadLies" "CardError" true, .exm "BadBase" "CardError" true, .exm "BadOrder" "CardError" true, .exm "TooMany" "CardError" true, .glo "CODE"] : List He.Fa)) : f.ok K = true := c.facts (List.mem_append.mpr (.inr h))
theorem ex_L {K : PySem.W.Frag} (h : exL K = true) (i : Nat) {b : Bool} (hb : ([clsB K "Tells", clsB K "Alike", clsB K "Thought", clsB K "Open", clsB K "Nobody", bareB K "Tells", bareB K "Nobody", kiB K "Tells" "Answer" true, kiB K "Tells" "Tells" true, kiB K "Tells" "Alike" false, kiB K "Tells" "Thought" false, kiB K "Tells" "Open" false, kiB K "Tells" "Nobody" false, kiB K "Alike" "Answer" true, kiB K "Alike" "Tells" false, kiB K "Alike" "Alike" true, kiB K "Alike" "Thought" false, kiB K "Alike" "Open" false, kiB K "Alike" "Nobody" false, kiB K "Thought" "Answer" true, kiB K "Thought" "Tells" false, kiB K "Thought" "Alike" false, kiB K "Thought" "Thought" true, kiB K "Thought" "Open" false, kiB K "Thought" "Nobody" false, kiB K "Open" "Answer" true, kiB K "Open" "Tells" false, kiB K "Open" "Alike" false, kiB K "Open" "Thought" false, kiB K "Open" "Open" true, kiB K "Open" "Nobody" false, kiB K "Nobody" "Answer" true, kiB K "Nobody" "Tells" false, kiB K "Nobody" "Alike" false, kiB K "Nobody" "Thought" false, kiB K "Nobody" "Open" false, kiB K "Nobody" "Nobody" true, errB K "BadMany", kvB K "BadMany", keB K "BadMany" "BadMany" true, keB K "BadMany" "BadCards" false, keB K "BadMany" "BadNumber" false, keB K "BadMany" "BadSaid" false, keB K "BadMany" "BadLies" false, keB K "BadMany" "BadBase" false, keB K "BadMany" "BadOrder" false, keB K "BadMany" "TooMany" false, errB K "BadCards", kvB K "BadCards", keB K "BadCards" "BadMany" false, keB K "BadCards" "BadCards" true, keB K "BadCards" "BadNumber" false, keB K "BadCards" "BadSaid" false, keB K "BadCards" "BadLies" false, keB K "BadCards" "BadBase" false, keB K "BadCards" "BadOrder" false, keB K "BadCards" "TooMany" false, errB K "BadNumber", kvB K "BadNumber", keB K "BadNumber" "BadMany" false, keB K "BadNumber" "BadCards" false, keB K "BadNumber" "BadNumber" true, keB K "BadNumber" "BadSaid" false, keB K "BadNumber" "BadLies" false, keB K "BadNumber" "BadBase" false, keB K "BadNumber" "BadOrder" false, keB K "BadNumber" "TooMany" false, errB K "BadSaid", kvB K "BadSaid", keB K "BadSaid" "BadMany" false, keB K "BadSaid" "BadCards" false, keB K "BadSaid" "BadNumber" false, keB K "BadSaid" "BadSaid" true, keB K "BadSaid" "BadLies" false, keB K "BadSaid" "BadBase" false, keB K "BadSaid" "BadOrder" false, keB K "BadSaid" "TooMany" false, errB K "BadLies", kvB K "BadLies", keB K "BadLies" "BadMany" false, keB K "BadLies" "BadCards" false, keB K "BadLies" "BadNumber" false, keB K "BadLies" "BadSaid" false, keB K "BadLies" "BadLies" true, keB K "BadLies" "BadBase" false, keB K "BadLies" "BadOrder" false, keB K "BadLies" "TooMany" false, errB K "BadBase", kvB K "BadBase", keB K "BadBase" "BadMany" false, keB K "BadBase" "BadCards" false, keB K "BadBase" "BadNumber" false, keB K "BadBase" "BadSaid" false, keB K "BadBase" "BadLies" false, keB K "BadBase" "BadBase" true, keB K "BadBase" "BadOrder" false, keB K "BadBase" "TooMany" false, errB K "BadOrder", kvB K "BadOrder", keB K "BadOrder" "BadMany" false, keB K "BadOrder" "BadCards" false, keB K "BadOrder" "BadNumber" false, keB K "BadOrder" "BadSaid" false, keB K "BadOrder" "BadLies" false, keB K "BadOrder" "BadBase" false, keB K "BadOrder" "BadOrder" true, keB K "BadOrder" "TooMany" false, errB K "TooMany", kvB K "TooMany", keB K "TooMany" "BadMany" false, keB K "TooMany" "BadCards" false, keB K "TooMany" "BadNumber" false, keB K "TooMany" "BadSaid" false, keB K "TooMany" "BadLies" false, keB K "TooMany" "BadBase" false, keB K "TooMany" "BadOrder" false, keB K "TooMany" "TooMany" true, decide (He.tabOf K (He.codeOf K ("_law_apart_right", none)) ≠ He.tabOf K (He.codeOf K ("_law_bad_right", none))), cdB K "CODE" codeP] : List Bool)[i]? = some b) : b = true := List.all_eq_true.mp h b (List.mem_of_getElem? hb)
theorem gm_CODE {K : PySem.W.Frag} {h : Heap} {mg : Str → Option Value} (X : K.In h) (G : h.Ns mainGlobals mg) (c : He.SaysD faL fnL K) : Gm mg "CODE" (.ref (He.ga K "CODE")) := ⟨_, He.glo_ok X G (fx_L c (by simp)), rfl⟩
theorem tab_L {K : PySem.W.Frag} (hx : exL K = true) : Tab K (He.ga K "CODE") (cdRows K "CODE") codeP := cdB_ok (ex_L hx 118 rfl)
theorem dm_of {K : PySem.W.Frag} (c : He.SaysD faL fnL K) {cl x qual : Str} {st : Stmt} {ps : List Str} (i : Nat) (hi : fnL[i]? = some ⟨(cl, some x), x, qual, defArgs st, defBody st, defScope st, [], []⟩) (hf : (He.Fa.meth cl x).ok K = true)
    (hb : ∀ (kV doc pm : Value) (an : Option Addr) (cdv ct : Value) (us : List Value), us.length = ps.length → bindArgs (PySem.W.fnOf x qual (defArgs st) (defBody st) (defScope st) .none kV doc pm an cdv ct) ⟨us, []⟩ = pure (ps.zip us)) : Dm K (He.ga K cl) x qual st ps := by
  obtain ⟨fd, F⟩ := c.def_ i hi
  have m := He.meth_ok hf
  exact ⟨_, fd, F, FunD.bindsN F hb, m.at_, m.fn⟩
theorem dm_Tells_shows {K : PySem.W.Frag} (c : He.SaysD faL fnL K) : Dm K (He.ga K "Tells") "shows" "Tells.shows" s_Tells_shows p_Tells_shows := dm_of c 26 rfl (fx_L c (by simp)) fun _ _ _ _ _ _ us hl => match us, hl with | [_, _, _, _], _ => rfl
theorem dm_Alike_init {K : PySem.W.Frag} (c : He.SaysD faL fnL K) : Dm K (He.ga K "Alike") "__init__" "Alike.__init__" s_Alike_init p_Alike_init := dm_of c 27 rfl (fx_L c (by simp)) fun _ _ _ _ _ _ us hl => match us, hl with | [_, _, _], _ => rfl
theorem dm_Alike_shows {K : PySem.W.Frag} (c : He.SaysD faL fnL K) : Dm K (He.ga K "Alike") "shows" "Alike.shows" s_Alike_shows p_Alike_shows := dm_of c 28 rfl (fx_L c (by simp)) fun _ _ _ _ _ _ us hl => match us, hl with | [_, _, _, _], _ => rfl
theorem dm_Thought_init {K : PySem.W.Frag} (c : He.SaysD faL fnL K) : Dm K (He.ga K "Thought") "__init__" "Thought.__init__" s_Thought_init p_Thought_init := dm_of c 29 rfl (fx_L c (by simp)) fun _ _ _ _ _ _ us hl => match us, hl with | [_, _, _], _ => rfl
theorem dm_Thought_shows {K : PySem.W.Frag} (c : He.SaysD faL fnL K) : Dm K (He.ga K "Thought") "shows" "Thought.shows" s_Thought_shows p_Thought_shows := dm_of c 30 rfl (fx_L c (by simp)) fun _ _ _ _ _ _ us hl => match us, hl with | [_, _, _, _, _], _ => rfl
theorem dm_Open_init {K : PySem.W.Frag} (c : He.SaysD faL fnL K) : Dm K (He.ga K "Open") "__init__" "Open.__init__" s_Open_init p_Open_init := dm_of c 31 rfl (fx_L c (by simp)) fun _ _ _ _ _ _ us hl => match us, hl with | [_, _, _], _ => rfl
theorem dm_Open_shows {K : PySem.W.Frag} (c : He.SaysD faL fnL K) : Dm K (He.ga K "Open") "shows" "Open.shows" s_Open_shows p_Open_shows := dm_of c 32 rfl (fx_L c (by simp)) fun _ _ _ _ _ _ us hl => match us, hl with | [_, _, _, _, _], _ => rfl
theorem dm_Nobody_shows {K : PySem.W.Frag} (c : He.SaysD faL fnL K) : Dm K (He.ga K "Nobody") "shows" "Nobody.shows" s_Nobody_shows p_Nobody_shows := dm_of c 33 rfl (fx_L c (by simp)) fun _ _ _ _ _ _ us hl => match us, hl with | [_, _, _, _, _], _ => rfl
theorem kc_Tells {K : PySem.W.Frag} (c : He.SaysD faL fnL K) : Kc0 K (He.ga K "Tells") [] := ⟨He.cls_ok (fx_L c (by simp)), fun f hf => by simp at hf⟩
theorem kc_Alike {K : PySem.W.Frag} (c : He.SaysD faL fnL K) : Kc0 K (He.ga K "Alike") ["one", "other"] := ⟨He.cls_ok (fx_L c (by simp)), fun f hf => by
    simp only [List.mem_cons, List.mem_nil_iff, or_false] at hf
    rcases hf with rfl | rfl
    · exact He.noat_ok (fx_L c (by simp))
    · exact He.noat_ok (fx_L c (by simp))⟩
theorem kc_Thought {K : PySem.W.Frag} (c : He.SaysD faL fnL K) : Kc0 K (He.ga K "Thought") ["number", "cards"] := ⟨He.cls_ok (fx_L c (by simp)), fun f hf => by
    simp only [List.mem_cons, List.mem_nil_iff, or_false] at hf
    rcases hf with rfl | rfl
    · exact He.noat_ok (fx_L c (by simp))
    · exact He.noat_ok (fx_L c (by simp))⟩
theorem kc_Open {K : PySem.W.Frag} (c : He.SaysD faL fnL K) : Kc0 K (He.ga K "Open") ["one", "other"] := ⟨He.cls_ok (fx_L c (by simp)), fun f hf => by
    simp only [List.mem_cons, List.mem_nil_iff, or_false] at hf
    rcases hf with rfl | rfl
    · exact He.noat_ok (fx_L c (by simp))
    · exact He.noat_ok (fx_L c (by simp))⟩
theorem kc_Nobody {K : PySem.W.Frag} (c : He.SaysD faL fnL K) : Kc0 K (He.ga K "Nobody") [] := ⟨He.cls_ok (fx_L c (by simp)), fun f hf => by simp at hf⟩
theorem xk_BadMany {K : PySem.W.Frag} {h : Heap} {mg : Str → Option Value} (X : K.In h) (G : h.Ns mainGlobals mg) (c : He.SaysD faL fnL K) : XkM K mg "BadMany" (He.ga K "BadMany") := XkM.of X G (fx_L c (by simp)) (fx_L c (by simp))
theorem gx_BadMany {K : PySem.W.Frag} {h : Heap} {mg : Str → Option Value} (X : K.In h) (G : h.Ns mainGlobals mg) (c : He.SaysD faL fnL K) : Gm mg "BadMany" (.ref (He.ga K "BadMany")) := ⟨_, He.glo_ok X G (fx_L c (by simp)), rfl⟩
theorem ec_BadMany {K : PySem.W.Frag} (hx : exL K = true) : ExcC K (He.ga K "BadMany") := errB_ok (ex_L hx 37 rfl)
theorem em_BadMany {K : PySem.W.Frag} (c : He.SaysD faL fnL K) : PySem.W.exmOne K (.ref (He.ga K "BadMany")) (.ref (He.ga K "CardError")) = some true := He.exm_ok (fx_L c (by simp))
theorem kv_BadMany {K : PySem.W.Frag} (hx : exL K = true) : Ke K (He.ga K "BadMany") (.ty "ValueError") true := kvB_ok (ex_L hx 38 rfl)
theorem ke_BadMany_BadMany {K : PySem.W.Frag} (hx : exL K = true) : Ke K (He.ga K "BadMany") (.ref (He.ga K "BadMany")) true := keB_ok (ex_L hx 39 rfl)
theorem ke_BadMany_BadCards {K : PySem.W.Frag} (hx : exL K = true) : Ke K (He.ga K "BadMany") (.ref (He.ga K "BadCards")) false := keB_ok (ex_L hx 40 rfl)
theorem ke_BadMany_BadNumber {K : PySem.W.Frag} (hx : exL K = true) : Ke K (He.ga K "BadMany") (.ref (He.ga K "BadNumber")) false := keB_ok (ex_L hx 41 rfl)
theorem ke_BadMany_BadSaid {K : PySem.W.Frag} (hx : exL K = true) : Ke K (He.ga K "BadMany") (.ref (He.ga K "BadSaid")) false := keB_ok (ex_L hx 42 rfl)
theorem ke_BadMany_BadLies {K : PySem.W.Frag} (hx : exL K = true) : Ke K (He.ga K "BadMany") (.ref (He.ga K "BadLies")) false := keB_ok (ex_L hx 43 rfl)
theorem ke_BadMany_BadBase {K : PySem.W.Frag} (hx : exL K = true) : Ke K (He.ga K "BadMany") (.ref (He.ga K "BadBase")) false := keB_ok (ex_L hx 44 rfl)
theorem ke_BadMany_BadOrder {K : PySem.W.Frag} (hx : exL K = true) : Ke K (He.ga K "BadMany") (.ref (He.ga K "BadOrder")) false := keB_ok (ex_L hx 45 rfl)
theorem ke_BadMany_TooMany {K : PySem.W.Frag} (hx : exL K = true) : Ke K (He.ga K "BadMany") (.ref (He.ga K "TooMany")) false := keB_ok (ex_L hx 46 rfl)
theorem xk_BadCards {K : PySem.W.Frag} {h : Heap} {mg : Str → Option Value} (X : K.In h) (G : h.Ns mainGlobals mg) (c : He.SaysD faL fnL K) : XkM K mg "BadCards" (He.ga K "BadCards") := XkM.of X G (fx_L c (by simp)) (fx_L c (by simp))
theorem gx_BadCards {K : PySem.W.Frag} {h : Heap} {mg : Str → Option Value} (X : K.In h) (G : h.Ns mainGlobals mg) (c : He.SaysD faL fnL K) : Gm mg "BadCards" (.ref (He.ga K "BadCards")) := ⟨_, He.glo_ok X G (fx_L c (by simp)), rfl⟩
theorem ec_BadCards {K : PySem.W.Frag} (hx : exL K = true) : ExcC K (He.ga K "BadCards") := errB_ok (ex_L hx 47 rfl)
theorem em_BadCards {K : PySem.W.Frag} (c : He.SaysD faL fnL K) : PySem.W.exmOne K (.ref (He.ga K "BadCards")) (.ref (He.ga K "CardError")) = some true := He.exm_ok (fx_L c (by simp))
theorem kv_BadCards {K : PySem.W.Frag} (hx : exL K = true) : Ke K (He.ga K "BadCards") (.ty "ValueError") true := kvB_ok (ex_L hx 48 rfl)
theorem ke_BadCards_BadMany {K : PySem.W.Frag} (hx : exL K = true) : Ke K (He.ga K "BadCards") (.ref (He.ga K "BadMany")) false := keB_ok (ex_L hx 49 rfl)
theorem ke_BadCards_BadCards {K : PySem.W.Frag} (hx : exL K = true) : Ke K (He.ga K "BadCards") (.ref (He.ga K "BadCards")) true := keB_ok (ex_L hx 50 rfl)
theorem ke_BadCards_BadNumber {K : PySem.W.Frag} (hx : exL K = true) : Ke K (He.ga K "BadCards") (.ref (He.ga K "BadNumber")) false := keB_ok (ex_L hx 51 rfl)
theorem ke_BadCards_BadSaid {K : PySem.W.Frag} (hx : exL K = true) : Ke K (He.ga K "BadCards") (.ref (He.ga K "BadSaid")) false := keB_ok (ex_L hx 52 rfl)
theorem ke_BadCards_BadLies {K : PySem.W.Frag} (hx : exL K = true) : Ke K (He.ga K "BadCards") (.ref (He.ga K "BadLies")) false := keB_ok (ex_L hx 53 rfl)
theorem ke_BadCards_BadBase {K : PySem.W.Frag} (hx : exL K = true) : Ke K (He.ga K "BadCards") (.ref (He.ga K "BadBase")) false := keB_ok (ex_L hx 54 rfl)
theorem ke_BadCards_BadOrder {K : PySem.W.Frag} (hx : exL K = true) : Ke K (He.ga K "BadCards") (.ref (He.ga K "BadOrder")) false := keB_ok (ex_L hx 55 rfl)
theorem ke_BadCards_TooMany {K : PySem.W.Frag} (hx : exL K = true) : Ke K (He.ga K "BadCards") (.ref (He.ga K "TooMany")) false := keB_ok (ex_L hx 56 rfl)
theorem xk_BadNumber {K : PySem.W.Frag} {h : Heap} {mg : Str → Option Value} (X : K.In h) (G : h.Ns mainGlobals mg) (c : He.SaysD faL fnL K) : XkM K mg "BadNumber" (He.ga K "BadNumber") := XkM.of X G (fx_L c (by simp)) (fx_L c (by simp))
theorem gx_BadNumber {K : PySem.W.Frag} {h : Heap} {mg : Str → Option Value} (X : K.In h) (G : h.Ns mainGlobals mg) (c : He.SaysD faL fnL K) : Gm mg "BadNumber" (.ref (He.ga K "BadNumber")) := ⟨_, He.glo_ok X G (fx_L c (by simp)), rfl⟩
theorem ec_BadNumber {K : PySem.W.Frag} (hx : exL K = true) : ExcC K (He.ga K "BadNumber") := errB_ok (ex_L hx 57 rfl)
theorem em_BadNumber {K : PySem.W.Frag} (c : He.SaysD faL fnL K) : PySem.W.exmOne K (.ref (He.ga K "BadNumber")) (.ref (He.ga K "CardError")) = some true := He.exm_ok (fx_L c (by simp))
theorem kv_BadNumber {K : PySem.W.Frag} (hx : exL K = true) : Ke K (He.ga K "BadNumber") (.ty "ValueError") true := kvB_ok (ex_L hx 58 rfl)
theorem ke_BadNumber_BadMany {K : PySem.W.Frag} (hx : exL K = true) : Ke K (He.ga K "BadNumber") (.ref (He.ga K "BadMany")) false := keB_ok (ex_L hx 59 rfl)
theorem ke_BadNumber_BadCards {K : PySem.W.Frag} (hx : exL K = true) : Ke K (He.ga K "BadNumber") (.ref (He.ga K "BadCards")) false := keB_ok (ex_L hx 60 rfl)
theorem ke_BadNumber_BadNumber {K : PySem.W.Frag} (hx : exL K = true) : Ke K (He.ga K "BadNumber") (.ref (He.ga K "BadNumber")) true := keB_ok (ex_L hx 61 rfl)
theorem ke_BadNumber_BadSaid {K : PySem.W.Frag} (hx : exL K = true) : Ke K (He.ga K "BadNumber") (.ref (He.ga K "BadSaid")) false := keB_ok (ex_L hx 62 rfl)
theorem ke_BadNumber_BadLies {K : PySem.W.Frag} (hx : exL K = true) : Ke K (He.ga K "BadNumber") (.ref (He.ga K "BadLies")) false := keB_ok (ex_L hx 63 rfl)
theorem ke_BadNumber_BadBase {K : PySem.W.Frag} (hx : exL K = true) : Ke K (He.ga K "BadNumber") (.ref (He.ga K "BadBase")) false := keB_ok (ex_L hx 64 rfl)
theorem ke_BadNumber_BadOrder {K : PySem.W.Frag} (hx : exL K = true) : Ke K (He.ga K "BadNumber") (.ref (He.ga K "BadOrder")) false := keB_ok (ex_L hx 65 rfl)
theorem ke_BadNumber_TooMany {K : PySem.W.Frag} (hx : exL K = true) : Ke K (He.ga K "BadNumber") (.ref (He.ga K "TooMany")) false := keB_ok (ex_L hx 66 rfl)
theorem xk_BadSaid {K : PySem.W.Frag} {h : Heap} {mg : Str → Option Value} (X : K.In h) (G : h.Ns mainGlobals mg) (c : He.SaysD faL fnL K) : XkM K mg "BadSaid" (He.ga K "BadSaid") := XkM.of X G (fx_L c (by simp)) (fx_L c (by simp))
theorem gx_BadSaid {K : PySem.W.Frag} {h : Heap} {mg : Str → Option Value} (X : K.In h) (G : h.Ns mainGlobals mg) (c : He.SaysD faL fnL K) : Gm mg "BadSaid" (.ref (He.ga K "BadSaid")) := ⟨_, He.glo_ok X G (fx_L c (by simp)), rfl⟩
theorem ec_BadSaid {K : PySem.W.Frag} (hx : exL K = true) : ExcC K (He.ga K "BadSaid") := errB_ok (ex_L hx 67 rfl)
theorem em_BadSaid {K : PySem.W.Frag} (c : He.SaysD faL fnL K) : PySem.W.exmOne K (.ref (He.ga K "BadSaid")) (.ref (He.ga K "CardError")) = some true := He.exm_ok (fx_L c (by simp))
theorem kv_BadSaid {K : PySem.W.Frag} (hx : exL K = true) : Ke K (He.ga K "BadSaid") (.ty "ValueError") true := kvB_ok (ex_L hx 68 rfl)
theorem ke_BadSaid_BadMany {K : PySem.W.Frag} (hx : exL K = true) : Ke K (He.ga K "BadSaid") (.ref (He.ga K "BadMany")) false := keB_ok (ex_L hx 69 rfl)
theorem ke_BadSaid_BadCards {K : PySem.W.Frag} (hx : exL K = true) : Ke K (He.ga K "BadSaid") (.ref (He.ga K "BadCards")) false := keB_ok (ex_L hx 70 rfl)
theorem ke_BadSaid_BadNumber {K : PySem.W.Frag} (hx : exL K = true) : Ke K (He.ga K "BadSaid") (.ref (He.ga K "BadNumber")) false := keB_ok (ex_L hx 71 rfl)
theorem ke_BadSaid_BadSaid {K : PySem.W.Frag} (hx : exL K = true) : Ke K (He.ga K "BadSaid") (.ref (He.ga K "BadSaid")) true := keB_ok (ex_L hx 72 rfl)
theorem ke_BadSaid_BadLies {K : PySem.W.Frag} (hx : exL K = true) : Ke K (He.ga K "BadSaid") (.ref (He.ga K "BadLies")) false := keB_ok (ex_L hx 73 rfl)
theorem ke_BadSaid_BadBase {K : PySem.W.Frag} (hx : exL K = true) : Ke K (He.ga K "BadSaid") (.ref (He.ga K "BadBase")) false := keB_ok (ex_L hx 74 rfl)
theorem ke_BadSaid_BadOrder {K : PySem.W.Frag} (hx : exL K = true) : Ke K (He.ga K "BadSaid") (.ref (He.ga K "BadOrder")) false := keB_ok (ex_L hx 75 rfl)
theorem ke_BadSaid_TooMany {K : PySem.W.Frag} (hx : exL K = true) : Ke K (He.ga K "BadSaid") (.ref (He.ga K "TooMany")) false := keB_ok (ex_L hx 76 rfl)
theorem xk_BadLies {K : PySem.W.Frag} {h : Heap} {mg : Str → Option Value} (X : K.In h) (G : h.Ns mainGlobals mg) (c : He.SaysD faL fnL K) : XkM K mg "BadLies" (He.ga K "BadLies") := XkM.of X G (fx_L c (by simp)) (fx_L c (by simp))
theorem gx_BadLies {K : PySem.W.Frag} {h : Heap} {mg : Str → Option Value} (X : K.In h) (G : h.Ns mainGlobals mg) (c : He.SaysD faL fnL K) : Gm mg "BadLies" (.ref (He.ga K "BadLies")) := ⟨_, He.glo_ok X G (fx_L c (by simp)), rfl⟩
theorem ec_BadLies {K : PySem.W.Frag} (hx : exL K = true) : ExcC K (He.ga K "BadLies") := errB_ok (ex_L hx 77 rfl)
theorem em_BadLies {K : PySem.W.Frag} (c : He.SaysD faL fnL K) : PySem.W.exmOne K (.ref (He.ga K "BadLies")) (.ref (He.ga K "CardError")) = some true := He.exm_ok (fx_L c (by simp))
theorem kv_BadLies {K : PySem.W.Frag} (hx : exL K = true) : Ke K (He.ga K "BadLies") (.ty "ValueError") true := kvB_ok (ex_L hx 78 rfl)
theorem ke_BadLies_BadMany {K : PySem.W.Frag} (hx : exL K = true) : Ke K (He.ga K "BadLies") (.ref (He.ga K "BadMany")) false := keB_ok (ex_L hx 79 rfl)
theorem ke_BadLies_BadCards {K : PySem.W.Frag} (hx : exL K = true) : Ke K (He.ga K "BadLies") (.ref (He.ga K "BadCards")) false := keB_ok (ex_L hx 80 rfl)
theorem ke_BadLies_BadNumber {K : PySem.W.Frag} (hx : exL K = true) : Ke K (He.ga K "BadLies") (.ref (He.ga K "BadNumber")) false := keB_ok (ex_L hx 81 rfl)
theorem ke_BadLies_BadSaid {K : PySem.W.Frag} (hx : exL K = true) : Ke K (He.ga K "BadLies") (.ref (He.ga K "BadSaid")) false := keB_ok (ex_L hx 82 rfl)
theorem ke_BadLies_BadLies {K : PySem.W.Frag} (hx : exL K = true) : Ke K (He.ga K "BadLies") (.ref (He.ga K "BadLies")) true := keB_ok (ex_L hx 83 rfl)
theorem ke_BadLies_BadBase {K : PySem.W.Frag} (hx : exL K = true) : Ke K (He.ga K "BadLies") (.ref (He.ga K "BadBase")) false := keB_ok (ex_L hx 84 rfl)
theorem ke_BadLies_BadOrder {K : PySem.W.Frag} (hx : exL K = true) : Ke K (He.ga K "BadLies") (.ref (He.ga K "BadOrder")) false := keB_ok (ex_L hx 85 rfl)
theorem ke_BadLies_TooMany {K : PySem.W.Frag} (hx : exL K = true) : Ke K (He.ga K "BadLies") (.ref (He.ga K "TooMany")) false := keB_ok (ex_L hx 86 rfl)
theorem xk_BadBase {K : PySem.W.Frag} {h : Heap} {mg : Str → Option Value} (X : K.In h) (G : h.Ns mainGlobals mg) (c : He.SaysD faL fnL K) : XkM K mg "BadBase" (He.ga K "BadBase") := XkM.of X G (fx_L c (by simp)) (fx_L c (by simp))
theorem gx_BadBase {K : PySem.W.Frag} {h : Heap} {mg : Str → Option Value} (X : K.In h) (G : h.Ns mainGlobals mg) (c : He.SaysD faL fnL K) : Gm mg "BadBase" (.ref (He.ga K "BadBase")) := ⟨_, He.glo_ok X G (fx_L c (by simp)), rfl⟩
theorem ec_BadBase {K : PySem.W.Frag} (hx : exL K = true) : ExcC K (He.ga K "BadBase") := errB_ok (ex_L hx 87 rfl)
theorem em_BadBase {K : PySem.W.Frag} (c : He.SaysD faL fnL K) : PySem.W.exmOne K (.ref (He.ga K "BadBase")) (.ref (He.ga K "CardError")) = some true := He.exm_ok (fx_L c (by simp))
theorem kv_BadBase {K : PySem.W.Frag} (hx : exL K = true) : Ke K (He.ga K "BadBase") (.ty "ValueError") true := kvB_ok (ex_L hx 88 rfl)
theorem ke_BadBase_BadMany {K : PySem.W.Frag} (hx : exL K = true) : Ke K (He.ga K "BadBase") (.ref (He.ga K "BadMany")) false := keB_ok (ex_L hx 89 rfl)
theorem ke_BadBase_BadCards {K : PySem.W.Frag} (hx : exL K = true) : Ke K (He.ga K "BadBase") (.ref (He.ga K "BadCards")) false := keB_ok (ex_L hx 90 rfl)
theorem ke_BadBase_BadNumber {K : PySem.W.Frag} (hx : exL K = true) : Ke K (He.ga K "BadBase") (.ref (He.ga K "BadNumber")) false := keB_ok (ex_L hx 91 rfl)
theorem ke_BadBase_BadSaid {K : PySem.W.Frag} (hx : exL K = true) : Ke K (He.ga K "BadBase") (.ref (He.ga K "BadSaid")) false := keB_ok (ex_L hx 92 rfl)
theorem ke_BadBase_BadLies {K : PySem.W.Frag} (hx : exL K = true) : Ke K (He.ga K "BadBase") (.ref (He.ga K "BadLies")) false := keB_ok (ex_L hx 93 rfl)
theorem ke_BadBase_BadBase {K : PySem.W.Frag} (hx : exL K = true) : Ke K (He.ga K "BadBase") (.ref (He.ga K "BadBase")) true := keB_ok (ex_L hx 94 rfl)
theorem ke_BadBase_BadOrder {K : PySem.W.Frag} (hx : exL K = true) : Ke K (He.ga K "BadBase") (.ref (He.ga K "BadOrder")) false := keB_ok (ex_L hx 95 rfl)
theorem ke_BadBase_TooMany {K : PySem.W.Frag} (hx : exL K = true) : Ke K (He.ga K "BadBase") (.ref (He.ga K "TooMany")) false := keB_ok (ex_L hx 96 rfl)
theorem xk_BadOrder {K : PySem.W.Frag} {h : Heap} {mg : Str → Option Value} (X : K.In h) (G : h.Ns mainGlobals mg) (c : He.SaysD faL fnL K) : XkM K mg "BadOrder" (He.ga K "BadOrder") := XkM.of X G (fx_L c (by simp)) (fx_L c (by simp))
theorem gx_BadOrder {K : PySem.W.Frag} {h : Heap} {mg : Str → Option Value} (X : K.In h) (G : h.Ns mainGlobals mg) (c : He.SaysD faL fnL K) : Gm mg "BadOrder" (.ref (He.ga K "BadOrder")) := ⟨_, He.glo_ok X G (fx_L c (by simp)), rfl⟩
theorem ec_BadOrder {K : PySem.W.Frag} (hx : exL K = true) : ExcC K (He.ga K "BadOrder") := errB_ok (ex_L hx 97 rfl)
theorem em_BadOrder {K : PySem.W.Frag} (c : He.SaysD faL fnL K) : PySem.W.exmOne K (.ref (He.ga K "BadOrder")) (.ref (He.ga K "CardError")) = some true := He.exm_ok (fx_L c (by simp))
theorem kv_BadOrder {K : PySem.W.Frag} (hx : exL K = true) : Ke K (He.ga K "BadOrder") (.ty "ValueError") true := kvB_ok (ex_L hx 98 rfl)
theorem ke_BadOrder_BadMany {K : PySem.W.Frag} (hx : exL K = true) : Ke K (He.ga K "BadOrder") (.ref (He.ga K "BadMany")) false := keB_ok (ex_L hx 99 rfl)
theorem ke_BadOrder_BadCards {K : PySem.W.Frag} (hx : exL K = true) : Ke K (He.ga K "BadOrder") (.ref (He.ga K "BadCards")) false := keB_ok (ex_L hx 100 rfl)
theorem ke_BadOrder_BadNumber {K : PySem.W.Frag} (hx : exL K = true) : Ke K (He.ga K "BadOrder") (.ref (He.ga K "BadNumber")) false := keB_ok (ex_L hx 101 rfl)
theorem ke_BadOrder_BadSaid {K : PySem.W.Frag} (hx : exL K = true) : Ke K (He.ga K "BadOrder") (.ref (He.ga K "BadSaid")) false := keB_ok (ex_L hx 102 rfl)
theorem ke_BadOrder_BadLies {K : PySem.W.Frag} (hx : exL K = true) : Ke K (He.ga K "BadOrder") (.ref (He.ga K "BadLies")) false := keB_ok (ex_L hx 103 rfl)
theorem ke_BadOrder_BadBase {K : PySem.W.Frag} (hx : exL K = true) : Ke K (He.ga K "BadOrder") (.ref (He.ga K "BadBase")) false := keB_ok (ex_L hx 104 rfl)
theorem ke_BadOrder_BadOrder {K : PySem.W.Frag} (hx : exL K = true) : Ke K (He.ga K "BadOrder") (.ref (He.ga K "BadOrder")) true := keB_ok (ex_L hx 105 rfl)
theorem ke_BadOrder_TooMany {K : PySem.W.Frag} (hx : exL K = true) : Ke K (He.ga K "BadOrder") (.ref (He.ga K "TooMany")) false := keB_ok (ex_L hx 106 rfl)
theorem xk_TooMany {K : PySem.W.Frag} {h : Heap} {mg : Str → Option Value} (X : K.In h) (G : h.Ns mainGlobals mg) (c : He.SaysD faL fnL K) : XkM K mg "TooMany" (He.ga K "TooMany") := XkM.of X G (fx_L c (by simp)) (fx_L c (by simp))
theorem gx_TooMany {K : PySem.W.Frag} {h : Heap} {mg : Str → Option Value} (X : K.In h) (G : h.Ns mainGlobals mg) (c : He.SaysD faL fnL K) : Gm mg "TooMany" (.ref (He.ga K "TooMany")) := ⟨_, He.glo_ok X G (fx_L c (by simp)), rfl⟩
theorem ec_TooMany {K : PySem.W.Frag} (hx : exL K = true) : ExcC K (He.ga K "TooMany") := errB_ok (ex_L hx 107 rfl)
theorem em_TooMany {K : PySem.W.Frag} (c : He.SaysD faL fnL K) : PySem.W.exmOne K (.ref (He.ga K "TooMany")) (.ref (He.ga K "CardError")) = some true := He.exm_ok (fx_L c (by simp))
theorem kv_TooMany {K : PySem.W.Frag} (hx : exL K = true) : Ke K (He.ga K "TooMany") (.ty "ValueError") true := kvB_ok (ex_L hx 108 rfl)
theorem ke_TooMany_BadMany {K : PySem.W.Frag} (hx : exL K = true) : Ke K (He.ga K "TooMany") (.ref (He.ga K "BadMany")) false := keB_ok (ex_L hx 109 rfl)
theorem ke_TooMany_BadCards {K : PySem.W.Frag} (hx : exL K = true) : Ke K (He.ga K "TooMany") (.ref (He.ga K "BadCards")) false := keB_ok (ex_L hx 110 rfl)
theorem ke_TooMany_BadNumber {K : PySem.W.Frag} (hx : exL K = true) : Ke K (He.ga K "TooMany") (.ref (He.ga K "BadNumber")) false := keB_ok (ex_L hx 111 rfl)
theorem ke_TooMany_BadSaid {K : PySem.W.Frag} (hx : exL K = true) : Ke K (He.ga K "TooMany") (.ref (He.ga K "BadSaid")) false := keB_ok (ex_L hx 112 rfl)
theorem ke_TooMany_BadLies {K : PySem.W.Frag} (hx : exL K = true) : Ke K (He.ga K "TooMany") (.ref (He.ga K "BadLies")) false := keB_ok (ex_L hx 113 rfl)
theorem ke_TooMany_BadBase {K : PySem.W.Frag} (hx : exL K = true) : Ke K (He.ga K "TooMany") (.ref (He.ga K "BadBase")) false := keB_ok (ex_L hx 114 rfl)
theorem ke_TooMany_BadOrder {K : PySem.W.Frag} (hx : exL K = true) : Ke K (He.ga K "TooMany") (.ref (He.ga K "BadOrder")) false := keB_ok (ex_L hx 115 rfl)
theorem ke_TooMany_TooMany {K : PySem.W.Frag} (hx : exL K = true) : Ke K (He.ga K "TooMany") (.ref (He.ga K "TooMany")) true := keB_ok (ex_L hx 116 rfl)
theorem ans_L {P : Program} {w : World} {K : PySem.W.Frag} {h : Heap} {mg : Str → Option Value} (X : K.In h) (G : h.Ns mainGlobals mg) (c : He.SaysD faL fnL K) (hx : exL K = true) (base : Heap) (kM : Kn P w K mg base 1 "marks_of" p_marks_of spMarksOf) (kU : Kn P w K mg base 1 "unlike" p_unlike spUnlike) (kN : Kn P w K mg base 2 "near" p_near spNear) :
    Ans P w K mg base (He.ga K "Answer") (He.ga K "Tells") (He.ga K "Alike") (He.ga K "Thought") (He.ga K "Open") (He.ga K "Nobody") := by
  have hB := bl_free X G c
  have g_Tells : mg "Tells" = some (.ref (He.ga K "Tells")) := He.glo_ok X G (fx_L c (by simp))
  have g_Alike : mg "Alike" = some (.ref (He.ga K "Alike")) := He.glo_ok X G (fx_L c (by simp))
  have g_Thought : mg "Thought" = some (.ref (He.ga K "Thought")) := He.glo_ok X G (fx_L c (by simp))
  have g_Open : mg "Open" = some (.ref (He.ga K "Open")) := He.glo_ok X G (fx_L c (by simp))
  have g_Nobody : mg "Nobody" = some (.ref (He.ga K "Nobody")) := He.glo_ok X G (fx_L c (by simp))
  have g_Answer : mg "Answer" = some (.ref (He.ga K "Answer")) := He.glo_ok X G (fx_L c (by simp))
  have b_Tells : clsB K "Tells" = true := ex_L hx 0 rfl
  have b_Alike : clsB K "Alike" = true := ex_L hx 1 rfl
  have b_Thought : clsB K "Thought" = true := ex_L hx 2 rfl
  have b_Open : clsB K "Open" = true := ex_L hx 3 rfl
  have b_Nobody : clsB K "Nobody" = true := ex_L hx 4 rfl
  exact {
    gA := ⟨_, g_Answer, rfl⟩,
    gT := ⟨_, g_Tells, rfl⟩,
    kT := kc_Tells c,
    tT := (clsB_ok b_Tells).2.2,
    mT := .bare (bareB_ok b_Tells (ex_L hx 5 rfl)) g_Tells,
    sT := k_Tells_shows (kc_Tells c).cls (dm_Tells_shows c) hB kM kU,
    iTA := of_decide_eq_true (ex_L hx 7 rfl),
    iTT := of_decide_eq_true (ex_L hx 8 rfl),
    iTL := of_decide_eq_true (ex_L hx 9 rfl),
    iTH := of_decide_eq_true (ex_L hx 10 rfl),
    iTO := of_decide_eq_true (ex_L hx 11 rfl),
    iTN := of_decide_eq_true (ex_L hx 12 rfl),
    gL := ⟨_, g_Alike, rfl⟩,
    kL := kc_Alike c,
    tL := (clsB_ok b_Alike).2.2,
    mL := k_Alike_init (kc_Alike c) (clsB_ok b_Alike).1 (clsB_ok b_Alike).2.1 g_Alike (dm_Alike_init c) hB,
    sL := k_Alike_shows (kc_Alike c) (dm_Alike_shows c) hB kM kU,
    iLA := of_decide_eq_true (ex_L hx 13 rfl),
    iLT := of_decide_eq_true (ex_L hx 14 rfl),
    iLL := of_decide_eq_true (ex_L hx 15 rfl),
    iLH := of_decide_eq_true (ex_L hx 16 rfl),
    iLO := of_decide_eq_true (ex_L hx 17 rfl),
    iLN := of_decide_eq_true (ex_L hx 18 rfl),
    gH := ⟨_, g_Thought, rfl⟩,
    kH := kc_Thought c,
    tH := (clsB_ok b_Thought).2.2,
    mH := k_Thought_init (kc_Thought c) (clsB_ok b_Thought).1 (clsB_ok b_Thought).2.1 g_Thought (dm_Thought_init c) hB,
    sH := k_Thought_shows (kc_Thought c) (dm_Thought_shows c) hB kM kN,
    iHA := of_decide_eq_true (ex_L hx 19 rfl),
    iHT := of_decide_eq_true (ex_L hx 20 rfl),
    iHL := of_decide_eq_true (ex_L hx 21 rfl),
    iHH := of_decide_eq_true (ex_L hx 22 rfl),
    iHO := of_decide_eq_true (ex_L hx 23 rfl),
    iHN := of_decide_eq_true (ex_L hx 24 rfl),
    gO := ⟨_, g_Open, rfl⟩,
    kO := kc_Open c,
    tO := (clsB_ok b_Open).2.2,
    mO := k_Open_init (kc_Open c) (clsB_ok b_Open).1 (clsB_ok b_Open).2.1 g_Open (dm_Open_init c) hB,
    sO := k_Open_shows (kc_Open c) (dm_Open_shows c) hB kN,
    iOA := of_decide_eq_true (ex_L hx 25 rfl),
    iOT := of_decide_eq_true (ex_L hx 26 rfl),
    iOL := of_decide_eq_true (ex_L hx 27 rfl),
    iOH := of_decide_eq_true (ex_L hx 28 rfl),
    iOO := of_decide_eq_true (ex_L hx 29 rfl),
    iON := of_decide_eq_true (ex_L hx 30 rfl),
    gN := ⟨_, g_Nobody, rfl⟩,
    kN := kc_Nobody c,
    tN := (clsB_ok b_Nobody).2.2,
    mN := .bare (bareB_ok b_Nobody (ex_L hx 6 rfl)) g_Nobody,
    sN := k_Nobody_shows (kc_Nobody c).cls (dm_Nobody_shows c) hB kN,
    iNA := of_decide_eq_true (ex_L hx 31 rfl),
    iNT := of_decide_eq_true (ex_L hx 32 rfl),
    iNL := of_decide_eq_true (ex_L hx 33 rfl),
    iNH := of_decide_eq_true (ex_L hx 34 rfl),
    iNO := of_decide_eq_true (ex_L hx 35 rfl),
    iNN := of_decide_eq_true (ex_L hx 36 rfl) }
def esL (K : PySem.W.Frag) : Es := ⟨He.ga K "CardError", He.ga K "BadMany", He.ga K "BadCards", He.ga K "BadNumber", He.ga K "BadSaid", He.ga K "BadLies", He.ga K "BadBase", He.ga K "BadOrder", He.ga K "TooMany"⟩
theorem esg_L {K : PySem.W.Frag} {h : Heap} {mg : Str → Option Value} (X : K.In h) (G : h.Ns mainGlobals mg) (c : He.SaysD faL fnL K) : EsG mg (esL K) := ⟨He.glo_ok X G (fx_L c (by simp)), gx_BadMany X G c, gx_BadCards X G c, gx_BadNumber X G c, gx_BadSaid X G c, gx_BadLies X G c, gx_BadBase X G c, gx_BadOrder X G c, gx_TooMany X G c⟩
theorem errs_L {K : PySem.W.Frag} (c : He.SaysD faL fnL K) (hx : exL K = true) : Errs K (esL K) := ⟨⟨ec_BadMany hx, em_BadMany c, ke_BadMany_BadMany hx, ke_BadMany_BadCards hx, ke_BadMany_BadNumber hx, ke_BadMany_BadSaid hx, ke_BadMany_BadLies hx, ke_BadMany_BadBase hx, ke_BadMany_BadOrder hx, ke_BadMany_TooMany hx, kv_BadMany hx, by decide⟩,
  ⟨ec_BadCards hx, em_BadCards c, ke_BadCards_BadMany hx, ke_BadCards_BadCards hx, ke_BadCards_BadNumber hx, ke_BadCards_BadSaid hx, ke_BadCards_BadLies hx, ke_BadCards_BadBase hx, ke_BadCards_BadOrder hx, ke_BadCards_TooMany hx, kv_BadCards hx, by decide⟩,
  ⟨ec_BadNumber hx, em_BadNumber c, ke_BadNumber_BadMany hx, ke_BadNumber_BadCards hx, ke_BadNumber_BadNumber hx, ke_BadNumber_BadSaid hx, ke_BadNumber_BadLies hx, ke_BadNumber_BadBase hx, ke_BadNumber_BadOrder hx, ke_BadNumber_TooMany hx, kv_BadNumber hx, by decide⟩,
  ⟨ec_BadSaid hx, em_BadSaid c, ke_BadSaid_BadMany hx, ke_BadSaid_BadCards hx, ke_BadSaid_BadNumber hx, ke_BadSaid_BadSaid hx, ke_BadSaid_BadLies hx, ke_BadSaid_BadBase hx, ke_BadSaid_BadOrder hx, ke_BadSaid_TooMany hx, kv_BadSaid hx, by decide⟩,
  ⟨ec_BadLies hx, em_BadLies c, ke_BadLies_BadMany hx, ke_BadLies_BadCards hx, ke_BadLies_BadNumber hx, ke_BadLies_BadSaid hx, ke_BadLies_BadLies hx, ke_BadLies_BadBase hx, ke_BadLies_BadOrder hx, ke_BadLies_TooMany hx, kv_BadLies hx, by decide⟩,
  ⟨ec_BadBase hx, em_BadBase c, ke_BadBase_BadMany hx, ke_BadBase_BadCards hx, ke_BadBase_BadNumber hx, ke_BadBase_BadSaid hx, ke_BadBase_BadLies hx, ke_BadBase_BadBase hx, ke_BadBase_BadOrder hx, ke_BadBase_TooMany hx, kv_BadBase hx, by decide⟩,
  ⟨ec_BadOrder hx, em_BadOrder c, ke_BadOrder_BadMany hx, ke_BadOrder_BadCards hx, ke_BadOrder_BadNumber hx, ke_BadOrder_BadSaid hx, ke_BadOrder_BadLies hx, ke_BadOrder_BadBase hx, ke_BadOrder_BadOrder hx, ke_BadOrder_TooMany hx, kv_BadOrder hx, by decide⟩,
  ⟨ec_TooMany hx, em_TooMany c, ke_TooMany_BadMany hx, ke_TooMany_BadCards hx, ke_TooMany_BadNumber hx, ke_TooMany_BadSaid hx, ke_TooMany_BadLies hx, ke_TooMany_BadBase hx, ke_TooMany_BadOrder hx, ke_TooMany_TooMany hx, kv_TooMany hx, by decide⟩⟩
def TL (K : PySem.W.Frag) : List (Addr × Str) := [(He.tabOf K (He.codeOf K ("_law_apart_right", none)), "_law_apart_right" ++ ".<locals>." ++ "<lambda>"), (He.tabOf K (He.codeOf K ("_law_bad_right", none)), "_law_bad_right" ++ ".<locals>." ++ "<lambda>")]
theorem ne_L {K : PySem.W.Frag} (hx : exL K = true) : He.tabOf K (He.codeOf K ("_law_apart_right", none)) ≠ He.tabOf K (He.codeOf K ("_law_bad_right", none)) := of_decide_eq_true (ex_L hx 117 rfl)
theorem mk1_L {K : PySem.W.Frag} {mg : Str → Option Value} {base : Heap} (hx : exL K = true) (tb : LamX.TabB base mg (He.codeOf K ("_law_apart_right", none)) (He.tabOf K (He.codeOf K ("_law_apart_right", none)))) : Mkr K mg base (TL K) "_law_apart_right" :=
  ⟨_, tb, by simp [TL], fun p hp e => by
    simp only [TL, List.mem_cons, List.not_mem_nil, or_false] at hp
    rcases hp with rfl | rfl
    · rfl
    · exact absurd e.symm (ne_L hx)⟩
theorem mk2_L {K : PySem.W.Frag} {mg : Str → Option Value} {base : Heap} (hx : exL K = true) (tb : LamX.TabB base mg (He.codeOf K ("_law_bad_right", none)) (He.tabOf K (He.codeOf K ("_law_bad_right", none)))) : Mkr K mg base (TL K) "_law_bad_right" :=
  ⟨_, tb, by simp [TL], fun p hp e => by
    simp only [TL, List.mem_cons, List.not_mem_nil, or_false] at hp
    rcases hp with rfl | rfl
    · exact absurd e (ne_L hx)
    · rfl⟩
theorem all_L {P : Program} {w : World} {K : PySem.W.Frag} {h : Heap} {mg : Str → Option Value} (X : K.In h) (G : h.Ns mainGlobals mg) (c : He.SaysD faL fnL K) (hx : exL K = true) (base : Heap) (mk1 : Mkr K mg base (TL K) "_law_apart_right") (mk2 : Mkr K mg base (TL K) "_law_bad_right") {f : Addr} {fd : FuncData} (F : FunD K "law" "law" (defArgs s_law) (defBody s_law) (defScope s_law) [] [] f fd) : FnOk P w K mg base (L2N.CX P w) 8 f fd p_law (spLaw K (TL K)) := by
  have hB := bl_free X G c
  have kW : Kn P w K mg base 1 "is_whole" p_is_whole spWhole := k_is_whole (df_is_whole X G c) hB
  have kMa : Kn P w K mg base 2 "asked_many" p_asked_many spMany := k_asked_many (df_asked_many X G c) hB kW (gm_MOST X G c)
  have kCa : Kn P w K mg base 2 "is_card" p_is_card spCard := k_is_card (df_is_card X G c) hB kW
  have kCs : Kn P w K mg base 3 "asked_cards" p_asked_cards spCards := k_asked_cards (df_asked_cards X G c) hB kMa kCa (gm_MOST_CARDS X G c)
  have kNu : Kn P w K mg base 2 "asked_number" p_asked_number spNumber := k_asked_number (df_asked_number X G c) hB kW
  have kMo : Kn P w K mg base 1 "marks_of" p_marks_of spMarksOf := k_marks_of (df_marks_of X G c) hB
  have kM := k_marks (df_marks X G c) hB kCs kNu kMo
  have kU : Kn P w K mg base 1 "unlike" p_unlike spUnlike := k_unlike (df_unlike X G c) hB
  have kT := k_together (df_together X G c) hB kCs (gm_MOST_CARDS X G c)
  have kO := k_ordered (df_ordered X G c) hB kCs kW
  have kNe := k_near (df_near X G c) hB kMo kU
  have an := ans_L X G c hx base kMo kU kNe
  have kLi : Kn P w K mg base 2 "asked_lies" p_asked_lies spLies := k_asked_lies (df_asked_lies X G c) hB kW
  have kJ := k_judged (df_judged X G c) hB kCs kLi kMo kU an.mT an.mL
  have kTo := k_told (df_told X G c) hB kCs kLi kMo kNe an.mH an.mO an.mN
  have kF : Kn P w K mg base 1 "fewest_of" p_fewest_of spFewOf := k_fewest_of (df_fewest_of X G c) hB
  have kFe := k_fewest (df_fewest X G c) hB (gm_MOST X G c) kW kF
  have kMd := k_made (df_made X G c) hB (gm_MOST X G c) kMa kW
  have kB := k_best (df_best X G c) hB (gm_CODE X G c) (tab_L hx) kMa kW kF kMd
  have xMa : Kn P w K mg base 2 "asked_many" p_asked_many (spManyX (esL K).m) := k_asked_manyX (df_asked_many X G c) hB kW (gm_MOST X G c) (xk_BadMany X G c)
  have xCa : Kn P w K mg base 2 "is_card" p_is_card spCardV := k_is_cardX (df_is_card X G c) hB kW
  have xCs : Kn P w K mg base 3 "asked_cards" p_asked_cards (spCardsX (esL K).m (esL K).c) := k_asked_cardsX (df_asked_cards X G c) hB xMa xCa (gm_MOST_CARDS X G c) (xk_BadCards X G c)
  have xNu : Kn P w K mg base 2 "asked_number" p_asked_number (spNumX (esL K).n) := k_asked_numberX (df_asked_number X G c) hB kW (xk_BadNumber X G c)
  have xLi : Kn P w K mg base 2 "asked_lies" p_asked_lies (spLiesX (esL K).l) := k_asked_liesX (df_asked_lies X G c) hB kW (xk_BadLies X G c)
  have ds : Doors9 P w K mg base (esL K) := {
    mr := k_marksR (df_marks X G c) hB xCs xNu
    tg := k_togetherR (df_together X G c) hB xCs (gm_MOST_CARDS X G c) (xk_TooMany X G c)
    or_ := k_orderedR (df_ordered X G c) hB xCs kW (xk_BadOrder X G c)
    jd := k_judgedR (df_judged X G c) hB xCs xLi
    tl := k_toldR (df_told X G c) hB xCs xLi (xk_BadSaid X G c)
    md := k_madeR (df_made X G c) hB (gm_MOST X G c) xMa kW (xk_BadBase X G c)
    fw := k_fewestR (df_fewest X G c) hB (gm_MOST X G c) kW kF (xk_BadMany X G c) (xk_BadLies X G c) }
  have er := errs_L c hx
  have kS : Kn P w K mg base 1 "_law_says" p_law_says spSays := k_law_says (df_law_says X G c) hB
  have kRe : Kn P w K mg base 6 "_law_refused" p_law_refused (spRef P w K mg base (esL K)) := k_law_refused (df_law_refused X G c) hB (esg_L X G c)
  have kG : ∀ cl fr ws, KnG P w K mg base 6 "_law_refused" p_law_refused (CellG cl fr ws) (spRefG P w K mg base (esL K) cl fr ws) := fun cl fr ws => k_law_refusedG cl fr ws (df_law_refused X G c) hB (esg_L X G c)
  have k1 := k_law_apart_right (dfc_law_apart_right X G c) mk1 hB an kT kO kM kTo kS kG ds er
  have k2 := k_law_lies_right (df_law_lies_right X G c) hB an kM kTo kJ
  have k3 := k_law_made_right (df_law_made_right X G c) hB kMd kFe
  have k4 := k_law_hand_right (df_law_hand_right X G c) hB an kB kM kTo kS
  have k5 := k_law_bad_right (dfc_law_bad_right X G c) mk2 hB kRe kG ds er
  exact k_law F hB k1 k2 k3 k4 k5
theorem fin_L {w : World} {K : PySem.W.Frag} {h : Heap} {mg : Str → Option Value} {f : Addr} (X : K.In h) (G : h.Ns mainGlobals mg) (hfa : mg ("law" : Str) = some (.ref f)) (c : He.SaysX faL fnL [] tfL exL w h K) :
    LamX.LawAtS PySem.Challenge.rw_thoughtcards_k09_whole_known w K (L2N.CX (PySem.Challenge.rw_thoughtcards_k09_whole_known).prog w) 8 63 "_law_script" mg f h := by
  have cd := c.t.d
  obtain ⟨fd, F⟩ := cd.def_ lawL (d := ⟨("law", none), "law", "law", defArgs s_law, defBody s_law, defScope s_law, [], []⟩) rfl
  have b := FunD.bindsA (ps := ["_law_script"]) F fun _ _ _ _ _ _ us hl => match us, hl with | [_], _ => rfl
  have hg : mg ("law" : Str) = some (.ref (He.fAd K ("law", none))) := He.glo_ok X G (cd.fact lawL (f := .glo "law") rfl)
  rw [hg] at hfa
  cases hfa
  have of_ : ∀ {R : Addr × Addr → Prop}, (∀ p ∈ tfL, R (He.cT K p)) → ∀ p ∈ tfL.map (He.cT K), R p := fun h p hp => by
    obtain ⟨d, hd, rfl⟩ := List.mem_map.mp hp
    exact h d hd
  refine ⟨fd, tfL.map (He.cT K), spLaw K (TL K), of_ c.empty, of_ c.out, of_ fun p hp => PySem.W.codeHd_of_K X (c.hd p hp), fun s v => b s [v] rfl, fun H a ns hl hbits hT hS => ?_, fun base _ _ tb => ?_⟩
  · refine ⟨a, ns, rfl, ⟨hS⟩, ⟨fun p hp => ?_⟩, fun _ => rfl⟩
    simp only [TL, List.mem_cons, List.not_mem_nil, or_false] at hp
    rcases hp with rfl | rfl
    · exact LamX.TabS.nil (hT (He.cT K ("_law_apart_right", none)) (List.mem_map.mpr ⟨_, by simp [tfL], rfl⟩))
    · exact LamX.TabS.nil (hT (He.cT K ("_law_bad_right", none)) (List.mem_map.mpr ⟨_, by simp [tfL], rfl⟩))
  · exact all_L X G cd c.more base (mk1_L c.more (tb (He.cT K ("_law_apart_right", none)) (List.mem_map.mpr ⟨_, by simp [tfL], rfl⟩))) (mk2_L c.more (tb (He.cT K ("_law_bad_right", none)) (List.mem_map.mpr ⟨_, by simp [tfL], rfl⟩))) F
end L2.Z
open PySem PySem.W PySem.Calls PyProof.Rows
theorem PySem.Challenge.cw_thoughtcards_k09_whole_known_holds : PySem.Challenge.rw_thoughtcards_k09_whole_known.Holds := by
  w_on; o_law
  refine HandSHeadRun.head_any (r := OpenLaw.row PySem.Challenge.rw_thoughtcards_k09_whole_known) (q := view (OpenLaw.row PySem.Challenge.rw_thoughtcards_k09_whole_known).prog [48]) (H := L2.Z.hkL) (ob := L2.Z.obL) (M := 6000) (loose := L2.Z.looseL) (d := HandSHeadRun.topDef (OpenLaw.row PySem.Challenge.rw_thoughtcards_k09_whole_known).prog 48) (kwd := []) L2.Z.obL_eq
    (by kernel_rfl) (fun s => by kernel_rfl) L2.Z.runL (by kernel_rfl) (by kernel_rfl) (by kernel_rfl) (by rfl) (by first | assumption | decide +kernel) (by decide +kernel) ⟨rfl, rfl, rfl, rfl, rfl, by decide +kernel⟩ ?hw ?hc
  case hw => w_witness2
  case hc =>
    refine L2.Z.walk_ofTE (l := PySem.Challenge.rw_thoughtcards_k09_whole_known) (n := 63) (k := 8) (x := "_law_script") (CX := fun w => L2N.CX (PySem.Challenge.rw_thoughtcards_k09_whole_known).prog w) rfl (by decide) (by kernel_rfl) ⟨rfl, by decide, by decide⟩ ?F (fun _ _ _ _ _ h => L2.Z.cx_false h)
    intro w mg fa h Y G hmg0
    obtain ⟨K, KX, c⟩ := Y
    have hmg : mg ("law" : PySem.Str) = some (.ref fa) := by
      have e : (HandSHeadRun.topDef (OpenLaw.row PySem.Challenge.rw_thoughtcards_k09_whole_known).prog 48).name = ("law" : PySem.Str) := by kernel_rfl
      rw [← e]
      exact hmg0
    exact ⟨K, KX, L2.Z.fin_L KX G hmg c⟩
