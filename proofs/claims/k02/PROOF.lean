import PyProof.Rows.All
import Wide.All
import OpenK.AllK
import Wide.FinOn
import KE.KStateDown
import HandS.ForMost
import HandS.ForExc
import HandS.More
import HandS.Wide
import HandS.IsInst
import HandS.ExcIs
import HandS.FStr
import HandS.Defaults
import HandS.TupAny
import HandS.TupLe
import HandS.Deep
import HandS.Flow
import HandS.Walk
import HandS.Head0
import HandS.Head1
import HandS.Head2
import HandS.HeadEnd
import HandS.HeadHook1
import HandS.HeadHook2
import PySem.Challenge.RW_endlessasks_k02_whole_texts_of_values
set_option Elab.async false
set_option linter.all false
set_option maxRecDepth 100000
namespace EL
/-- the greatest common divisor, as the loop leaves it -/
def cd (a b : Int) : Int := ((Nat.gcd a.natAbs b.natAbs : Nat) : Int)
def nrm (t b : Int) : Int × Int := if b < 0 then ((-t) / cd (-t) (-b), (-b) / cd (-t) (-b)) else (t / cd t b, b / cd t b)
theorem cd_pos {a b : Int} (h : b ≠ 0) : 0 < cd a b := by
  unfold cd
  have := Nat.gcd_pos_of_pos_right a.natAbs (n := b.natAbs) (by omega)
  omega
theorem cd_dvd_l (a b : Int) : cd a b ∣ a := by
  unfold cd
  exact Int.ofNat_dvd_left.mpr (Nat.gcd_dvd_left _ _)
theorem cd_dvd_r (a b : Int) : cd a b ∣ b := by
  unfold cd
  exact Int.ofNat_dvd_left.mpr (Nat.gcd_dvd_right _ _)
theorem cd_neg_l (a b : Int) : cd (-a) b = cd a b := by unfold cd; rw [Int.natAbs_neg]
theorem cd_neg_r (a b : Int) : cd a (-b) = cd a b := by unfold cd; rw [Int.natAbs_neg]
/-- a value in lowest terms -/
def Low (a b : Int) : Prop := 0 < b ∧ cd a b = 1
theorem cd_div {a b : Int} (hb : b ≠ 0) : cd (a / cd a b) (b / cd a b) = 1 := by
  have hp := cd_pos (a := a) hb
  have e : ∀ x : Int, cd a b ∣ x → (x / cd a b).natAbs = x.natAbs / Nat.gcd a.natAbs b.natAbs := fun x hx => by
    rw [Int.natAbs_ediv_of_dvd hx]
    rfl
  show ((Nat.gcd (a / cd a b).natAbs (b / cd a b).natAbs : Nat) : Int) = 1
  rw [e a (cd_dvd_l a b), e b (cd_dvd_r a b), Nat.gcd_div (Nat.gcd_dvd_left _ _) (Nat.gcd_dvd_right _ _), Nat.div_self (Nat.gcd_pos_of_pos_right _ (by omega))]
  rfl
theorem nrm_low {t b : Int} (hb : b ≠ 0) : Low (nrm t b).1 (nrm t b).2 := by
  unfold nrm
  by_cases h : b < 0
  · rw [if_pos h]
    have hp := cd_pos (a := -t) (b := -b) (by omega)
    refine ⟨?_, cd_div (by omega)⟩
    exact Int.ediv_pos_of_pos_of_dvd (by omega) (Int.le_of_lt hp) (cd_dvd_r _ _)
  · rw [if_neg h]
    have hp := cd_pos (a := t) (b := b) hb
    refine ⟨?_, cd_div hb⟩
    exact Int.ediv_pos_of_pos_of_dvd (by omega) (Int.le_of_lt hp) (cd_dvd_r _ _)
theorem nrm_eq {t b : Int} (hb : b ≠ 0) : (nrm t b).1 * b = t * (nrm t b).2 := by
  unfold nrm
  by_cases h : b < 0
  · rw [if_pos h]
    have hp := cd_pos (a := -t) (b := -b) (by omega)
    obtain ⟨u, hu⟩ := cd_dvd_l (-t) (-b)
    obtain ⟨v, hv⟩ := cd_dvd_r (-t) (-b)
    generalize cd (-t) (-b) = g at *
    have e1 : -t / g = u := by rw [hu, Int.mul_ediv_cancel_left _ (by omega)]
    have e2 : -b / g = v := by rw [hv, Int.mul_ediv_cancel_left _ (by omega)]
    show -t / g * b = t * (-b / g)
    rw [e1, e2]
    have ht : t = -(g * u) := by omega
    have hb' : b = -(g * v) := by omega
    rw [ht, hb', Int.mul_neg, Int.neg_mul, Int.mul_left_comm, Int.mul_comm g u, Int.mul_assoc, Int.mul_left_comm u g v]
  · rw [if_neg h]
    have hp := cd_pos (a := t) (b := b) hb
    obtain ⟨u, hu⟩ := cd_dvd_l t b
    obtain ⟨v, hv⟩ := cd_dvd_r t b
    generalize cd t b = g at *
    have e1 : t / g = u := by rw [hu, Int.mul_ediv_cancel_left _ (by omega)]
    have e2 : b / g = v := by rw [hv, Int.mul_ediv_cancel_left _ (by omega)]
    show t / g * b = t * (b / g)
    rw [e1, e2, hu, hv, Int.mul_left_comm, Int.mul_assoc]
/-- two values in lowest terms that stand for one fraction are one -/
theorem low_unique {a b c d : Int} (h1 : Low a b) (h2 : Low c d) (h : a * d = c * b) : a = c ∧ b = d := by
  obtain ⟨hb, g1⟩ := h1
  obtain ⟨hd, g2⟩ := h2
  have c1 : Nat.gcd a.natAbs b.natAbs = 1 := by unfold cd at g1; omega
  have c2 : Nat.gcd c.natAbs d.natAbs = 1 := by unfold cd at g2; omega
  have hn : a.natAbs * d.natAbs = c.natAbs * b.natAbs := by rw [← Int.natAbs_mul, ← Int.natAbs_mul, h]
  have d1 : b.natAbs ∣ d.natAbs := by
    have : b.natAbs ∣ a.natAbs * d.natAbs := by rw [hn]; exact Nat.dvd_mul_left _ _
    exact (Nat.Coprime.symm (show Nat.Coprime a.natAbs b.natAbs from c1)).dvd_of_dvd_mul_left this
  have d2 : d.natAbs ∣ b.natAbs := by
    have : d.natAbs ∣ c.natAbs * b.natAbs := by rw [← hn]; exact Nat.dvd_mul_left _ _
    exact (Nat.Coprime.symm (show Nat.Coprime c.natAbs d.natAbs from c2)).dvd_of_dvd_mul_left this
  have e : b = d := by
    have := Nat.dvd_antisymm d1 d2
    omega
  subst e
  exact ⟨Int.eq_of_mul_eq_mul_right (by omega) h, rfl⟩
theorem nrm_scale {t b f : Int} (hb : b ≠ 0) (hf : f ≠ 0) : nrm (t * f) (b * f) = nrm t b := by
  have hbf : b * f ≠ 0 := Int.mul_ne_zero hb hf
  have l1 := nrm_low (t := t * f) hbf
  have l2 := nrm_low (t := t) hb
  have e1 := nrm_eq (t := t * f) hbf
  have e2 := nrm_eq (t := t) hb
  have u := low_unique l1 l2 (by
    generalize (nrm (t * f) (b * f)).1 = p at *
    generalize (nrm (t * f) (b * f)).2 = q at *
    generalize (nrm t b).1 = r at *
    generalize (nrm t b).2 = s at *
    -- p * (b f) = (t f) q ; r b = t s ; want p s = r q
    have hbf2 : p * b = t * q := by
      refine Int.eq_of_mul_eq_mul_right hf ?_
      rw [Int.mul_assoc, e1, Int.mul_assoc, Int.mul_comm f q, Int.mul_assoc]
    refine Int.eq_of_mul_eq_mul_right hb ?_
    calc p * s * b = (p * b) * s := by rw [Int.mul_assoc, Int.mul_comm s b, Int.mul_assoc]
      _ = (t * q) * s := by rw [hbf2]
      _ = (t * s) * q := by rw [Int.mul_assoc, Int.mul_comm q s, Int.mul_assoc]
      _ = r * b * q := by rw [e2]
      _ = r * q * b := by rw [Int.mul_assoc, Int.mul_comm b q, Int.mul_assoc])
  exact Prod.ext u.1 u.2
theorem nrm_one (t : Int) : nrm t 1 = (t, 1) := by
  have e : cd t 1 = 1 := by unfold cd; simp
  unfold nrm
  rw [if_neg (by omega), e]
  simp
end EL
namespace EL
open PySem PySem.Spec PyProof.Rows L2 He
/-! ### a def by its name -/
structure Dn (P : Program) (w : World) (K : PySem.W.Frag) (mg : Str → Option Value) (base : Heap) (CX : CXT) (k : Nat) (x : Str) (sp : Sp) : Prop where
  g : mg x = some (.ref (ga K x))
  kp : PySem.W.keepIn K (.ref (ga K x)) = true
  r : FnR P w K mg base CX k (ga K x) sp
section
variable {X : Cx} {CX : CXT} {k : Nat} {f : Addr} {sp : Sp} {E : L2.St → XK} {x : Str} {p pos : Pos} {e : Expr} {es : List Expr} {t : TA}
theorem run_fnRS {pins : List (Addr × Obj)} {σ : L2.St} {H : Hp} {s : Shared} {Q : VK} {us : List Value} {vs : List V} (F : FnR X.prog X.w X.K X.mg X.base CX k f sp) (hr : Room k X.A) (hx : PassesAt CX X σ (E σ))
    (I : Inv X pins σ H s) (r : Vals vs us) (h : sp vs H Q (E σ)) : wpAny (model X.prog X.w) X.A (call (.ref f) us) (EP X pins σ Q) X.xe s := by
  refine wpAny_call (codeAny_mono (F X.A X.stack s H us vs Q (E σ) hr I.env0 r h) fun r s' hq => ?_)
  cases r with
  | error e => exact hx pins H s e s' I hq
  | ok fl =>
    cases fl with
    | ret u => exact I.after hq
    | next => exact False.elim hq
    | brk => exact False.elim hq
    | cont => exact False.elim hq
theorem pe_fn (F : FnR X.prog X.w X.K X.mg X.base CX k f sp) (hr : Room k X.A) (hg : Gl X x) (hm : X.mg x = some (.ref f)) (hk : PySem.W.keepIn X.K (.ref f) = true) (hx : ∀ σ, PassesAt CX X σ (E σ))
    (ha : PA X (e :: es) t) (hdb : (x == ("__debug__" : Str)) = false := by decide) (he : starEach (e :: es) X.env = (false, eval e X.env) :: starEach es X.env := by rfl) (hpl : (backTo pos (starEach es X.env)).any (·.1) = false := by rfl) :
    PE X (.Call (.Name x p) (e :: es) [] pos) (tCallS sp E t) := by
  refine ⟨fun pins s σ H Q I h => ?_⟩
  refine wpAny_Call_Name_kw (ld_glob I hg hm ?_ hdb)
  refine PySem.W.callWith_K (h₀ := X.base) I.ok.mod.kin hk (thn (ha.run pos pins s σ H _ I h) fun us s1 ⟨vs, H1, I1, r, q⟩ => ⟨I1.kIn, ?_⟩) he hpl
  exact run_fnRS F hr (hx σ) I1 r q
/-- a call of a def that lets nothing out -/
theorem cl (D : Dn X.prog X.w X.K X.mg X.base CX0 k x sp) (hr : Room k X.A) (ha : PA X (e :: es) t) (hg : Gl X x := by rfl)
    (hdb : (x == ("__debug__" : Str)) = false := by decide) (he : starEach (e :: es) X.env = (false, eval e X.env) :: starEach es X.env := by rfl) (hpl : (backTo pos (starEach es X.env)).any (·.1) = false := by rfl) :
    PE X (.Call (.Name x p) (e :: es) [] pos) (tCallS sp (fun _ => E0) t) := pe_fn D.r hr hg D.g D.kp (fun _ _ _ _ _ _ _ h => h.elim) ha hdb he hpl
/-- a call of a def that may raise, where it raises nothing -/
theorem cl0 (D : Dn X.prog X.w X.K X.mg X.base (L2.CX X.prog X.w) k x sp) (hr : Room k X.A) (ha : PA X (e :: es) t) (hg : Gl X x := by rfl)
    (hdb : (x == ("__debug__" : Str)) = false := by decide) (he : starEach (e :: es) X.env = (false, eval e X.env) :: starEach es X.env := by rfl) (hpl : (backTo pos (starEach es X.env)).any (·.1) = false := by rfl) :
    PE X (.Call (.Name x p) (e :: es) [] pos) (tCallS sp (fun _ => E0) t) := pe_fn D.r hr hg D.g D.kp (fun σ pins H s e s' I h => passL pins σ H s e s' I h) ha hdb he hpl
/-- a call of a def that may raise -/
theorem clx {W : WX} (tk : Takes X W) (D : Dn X.prog X.w X.K X.mg X.base (L2.CX X.prog X.w) k x sp) (hr : Room k X.A) (ha : PA X (e :: es) t) (hg : Gl X x := by rfl)
    (hdb : (x == ("__debug__" : Str)) = false := by decide) (he : starEach (e :: es) X.env = (false, eval e X.env) :: starEach es X.env := by rfl) (hpl : (backTo pos (starEach es X.env)).any (·.1) = false := by rfl) :
    PE X (.Call (.Name x p) (e :: es) [] pos) (tCallS sp (WE W) t) := pe_fn D.r hr hg D.g D.kp (fun σ => passAt tk σ) ha hdb he hpl
/-- a module's name that holds a plain value -/
theorem pe_gv {v : V} {pos : Pos} (h : ∃ u, X.mg x = some u ∧ RelV v u) (hg : Gl X x := by rfl) (hd : (x == ("__debug__" : Str)) = false := by decide) : PE X (.Name x pos) (tC v) := by
  obtain ⟨u, h1, h2⟩ := h
  exact pe_glob hg h1 h2 hd
end
/-! ### own errors without an __init__ -/
structure XC (K : PySem.W.Frag) (mg : Str → Option Value) (x : Str) : Prop where
  g : mg x = some (.ref (ga K x))
  q : PySem.W.excIn K (ga K x) veBase "ValueError.__new__" = true
  k : PySem.W.keepIn K (.ref (ga K x)) = true
  b : PySem.W.subIn K (.ref (ga K x)) (.type "BaseException") = some true
  t : PySem.W.typeIn K (.ref (ga K x)) = some (.type "type")
/-- raise C('..') -/
theorem rs {X : Cx} {W : WX} {c m : Str} {j : Nat} {p p2 pos pos2 : Pos} (hc : X.calm = true) (tk : Takes X W) (x : XC X.K X.mg c) (hg : Gl X c) (hdb : (c == ("__debug__" : Str)) = false := by decide) :
    PS X (.Raise (some (.Call (.Name c p) [.Constant (.str m) j p2] [] pos)) none pos2) (fun _ σ H => W (.ref (ga X.K c)) none σ H) :=
  ps_raise hc tk (pmk_own PySem.F.excBase_ValueError x.q x.g x.k (raises_own x.b x.t) hg hdb)
/-! ### heaps -/
theorem same_upd {H : Hp} {p : Addr} {o : HO} (h : H p = none) : Same H (upd H p o) := fun b x e => by
  rw [upd_ne (ne_of_none e h)]
  exact e
theorem Same.seqT {K : PySem.W.Frag} {H H' : Hp} {a : Addr} {xs : List V} (e : Same H H') (h : SqT K H a xs) : SqT K H' a xs := by
  rcases h with (h | ⟨o, h⟩) | h
  · exact .inl (.inl (e _ _ h))
  · exact .inl (.inr ⟨o, e _ _ h⟩)
  · exact .inr h
/-- a new object: the heap behind is a letter -/
theorem newO {H : Hp} {o : HO} {Q : Addr → Hp → Prop} (h : ∀ p H', H p = none → Same H H' → H' p = some o → Q p H') : ∀ p, H p = none → Q p (upd H p o) := fun p hp => h p _ hp (same_upd hp) upd_same
theorem newV {H : Hp} {o : HO} {Q : V → Hp → Prop} (h : ∀ p H', H p = none → Same H H' → H' p = some o → Q (.ref p) H') : ∀ p, H p = none → Q (.ref p) (upd H p o) := fun p hp => h p _ hp (same_upd hp) upd_same
theorem ie {b : Bool} {A B : Prop} (h1 : b = true → A) (h2 : b = false → B) : if b = true then A else B := by
  cases b with
  | true => rw [if_pos rfl]; exact h1 rfl
  | false => rw [if_neg Bool.false_ne_true]; exact h2 rfl
theorem if_pos_of {b : Bool} {A B : Prop} (h : b = true) (a : A) : if b = true then A else B := by rw [if_pos h]; exact a
theorem if_neg_of {b : Bool} {A B : Prop} (h : b = false) (a : B) : if b = true then A else B := by rw [h, if_neg Bool.false_ne_true]; exact a
theorem small40 {n : Nat} (h : n ≤ 100000) : n ≤ sizeLine := Nat.le_trans h (by decide)
end EL
namespace EL
open PySem PySem.Spec PyProof.Rows L2 He
/-! ### the head: facts, defs and one more Bool -/
theorem xc_of {K : PySem.W.Frag} {mg : Str → Option Value} {x : Str} (g : mg x = some (.ref (ga K x))) (h : PySem.W.excIn K (ga K x) veBase "ValueError.__new__" = true ∧ PySem.W.keepIn K (.ref (ga K x)) = true ∧ PySem.W.subIn K (.ref (ga K x)) (.type "BaseException") = some true ∧
    PySem.W.typeIn K (.ref (ga K x)) = some (.type "type")) : XC K mg x := ⟨g, h.1, h.2.1, h.2.2.1, h.2.2.2⟩
theorem gv_int {mg : Str → Option Value} {x : Str} {i : Int} (h : ∃ t, mg x = some (.int i t)) : ∃ u, mg x = some u ∧ RelV (.int i) u := by
  obtain ⟨t, e⟩ := h
  exact ⟨_, e, t, rfl⟩
theorem gv_str {mg : Str → Option Value} {x z : Str} (h : ∃ t, mg x = some (.str z t)) : ∃ u, mg x = some u ∧ RelV (.str z) u := by
  obtain ⟨t, e⟩ := h
  exact ⟨_, e, t, rfl⟩
abbrev AlM : Type := AlD × Bool
def obsM (fa : List Fa) (fn : List DefD) (ex : PySem.W.Frag → Bool) (K : PySem.W.Frag) : AlM := (obsD fa fn K, ex K)
def obsMG (n : Nat) (fa : List Fa) (fn : List DefD) (ex : PySem.W.Frag → Bool) (g : Addr → Option Obj) : AlM := obsM fa fn ex (frG g (asD g n))
def valM (fn : List DefD) : AlM := (valD fn, true)
def hookM (n : Nat) (fa : List Fa) (fn : List DefD) (ex : PySem.W.Frag → Bool) : PySem.W.Hook where
  α := AlM
  obs := fun s => obsMG n fa fn ex s.heap.get?
  val := fun _ => valM fn
  says := fun _ h => ∃ K : PySem.W.Frag, K.In h ∧ SaysD fa fn K ∧ ex K = true
  of := fun _ _ e => ⟨_, frG_in, congrArg (fun z : AlM => z.1) e, congrArg (fun z : AlM => z.2) e⟩
  keeps := fun _ _ _ ⟨K, hK, c⟩ k => ⟨K, PySem.W.Frag.In.keeps hK k, c⟩
theorem obsMG_eq {n : Nat} {fa : List Fa} {fn : List DefD} {ex : PySem.W.Frag → Bool} {g : Addr → Option Obj} {s : Shared} (h : ∀ a, g a = s.heap.get? a) : obsMG n fa fn ex g = (hookM n fa fn ex).obs s := by
  have e : g = s.heap.get? := funext h
  rw [e] <;> rfl
end EL
namespace EL
open PySem PySem.Spec PyProof.Rows L2 He
/-! ### from a def's body to its Dn -/
section
variable {P : Program} {w : World} {K : PySem.W.Frag} {mg : Str → Option Value} {base : Heap} {CX : CXT} {k : Nat} {x : Str} {sp : Sp} {params : Arguments} {body : List Stmt} {scope : Scope} {dvs : List V} {fd : FuncData} {ps N : List Str}
theorem dnN (g : mg x = some (.ref (ga K x))) (F : FunD K x x params body scope [] [] (ga K x) fd)
    (hb : ∀ (kV doc pm : Value) (an : Option Addr) (cdv ct : Value) (us : List Value), us.length = ps.length → bindArgs (PySem.W.fnOf x x params body scope .none kV doc pm an cdv ct) ⟨us, []⟩ = pure (ps.zip us))
    (S : FnScope N ps scope) (len : ∀ vs H Q E, sp vs H Q E → vs.length = ps.length)
    (hbody : ∀ (cdv : Value) (A : Around) (outer : List Env) (s : Shared) (H : Hp) (vs : List V) (Q : VK) (E : XK), Room k (A.deeper (envOfC x scope s.heap.objs.size (ga K x) cdv)) → sp vs H Q E →
      ∃ t, PSs (cxOf CX P w K mg base N x scope (ga K x) cdv A outer s H E) body t ∧ t { nx := fun _ H' => Q .non H', rt := Q } (start N vs) H) : Dn P w K mg base CX (k + 1) x sp :=
  ⟨g, F.kp, ((F.ok S len hbody).raw (F.bindsN hb) .nil).imp fun vs H Q E h => by rw [List.append_nil]; exact h⟩
theorem Dn.mono {j : Nat} (D : Dn P w K mg base CX j x sp) (h : j ≤ k) : Dn P w K mg base CX k x sp := ⟨D.g, D.kp, D.r.mono h⟩
end
/-! ### data -/
inductive Kd where
  | non | bl | int | str | lst | tup | dct
  deriving DecidableEq
def kdN : Kd → String
  | .non => "NoneType"
  | .bl => "bool"
  | .int => "int"
  | .str => "str"
  | .lst => "list"
  | .tup => "tuple"
  | .dct => "dict"
def kd : PyData → Kd
  | .none => .non
  | .bool _ => .bl
  | .int _ => .int
  | .str _ => .str
  | .list _ => .lst
  | .tuple _ => .tup
  | .dict _ => .dct
def tyn (d : PyData) : String := kdN (kd d)
theorem SqL.ty {K : PySem.W.Frag} {H : Hp} {a : Addr} {xs : List V} (h : SqL K H a xs) : TyX K H (.ref a) (.type "list") := by
  rcases h with (h | ⟨o, h⟩) | ⟨o, its, n, h1, h2, _⟩
  · exact .base (.lst h)
  · exact .base (.frz h)
  · exact .kList h1 h2
theorem SqT.ty {K : PySem.W.Frag} {H : Hp} {a : Addr} {xs : List V} (h : SqT K H a xs) : TyX K H (.ref a) (.type "tuple") := by
  rcases h with (h | ⟨o, h⟩) | ⟨o, its, n, h1, h2, _⟩
  · exact .base (.tup h)
  · exact .fTuple h
  · exact .kTuple h1 h2
theorem Dp.ty {K : PySem.W.Frag} {H : Hp} {v : V} {d : PyData} (h : Dp K H v d) : TyX K H v (.type (tyn d)) := by
  cases h with
  | non => exact .base .non
  | bl b => exact .base (.bl b)
  | int i => exact .base (.int i)
  | str x => exact .base (.str x)
  | lst h _ => exact SqL.ty h
  | tup h _ => exact SqT.ty h
mutual
theorem Dp.same {K : PySem.W.Frag} {H H' : Hp} (s : Same H H') : ∀ {d : PyData} {v : V}, Dp K H v d → Dp K H' v d
  | _, _, .non => .non
  | _, _, .bl b => .bl b
  | _, _, .int i => .int i
  | _, _, .str x => .str x
  | _, _, .lst h a => .lst (s.seq h) (DpAll.same s a)
  | _, _, .tup h a => .tup (Same.seqT s h) (DpAll.same s a)
theorem DpAll.same {K : PySem.W.Frag} {H H' : Hp} (s : Same H H') : ∀ {ds : List PyData} {vs : List V}, DpAll K H vs ds → DpAll K H' vs ds
  | _, _, .nil => .nil
  | _, _, .cons a b => .cons (Dp.same s a) (DpAll.same s b)
end
theorem DpAll.length {K : PySem.W.Frag} {H : Hp} : ∀ {ds : List PyData} {vs : List V}, DpAll K H vs ds → vs.length = ds.length
  | _, _, .nil => rfl
  | _, _, .cons _ b => congrArg Nat.succ (DpAll.length b)
/-- isinstance's answers of data -/
def kIs (T k : Kd) : Bool := decide (k = T) || (decide (T = .int) && decide (k = .bl))
def isTy (T : Kd) (d : PyData) : Bool := kIs T (kd d)
theorem kit_k : ∀ T k : Kd, kitB (kdN k) (kdN T) = some (kIs T k) := by
  intro T k
  cases T <;> cases k <;> decide +kernel
theorem kit_d (K : PySem.W.Frag) (T : Kd) (d : PyData) : PySem.W.kitOne K (.type (tyn d)) (.type (kdN T)) = some (isTy T d) := kit_ty (kit_k T (kd d))
/-- a thing: data, or some object that is none of the five -/
inductive Th where
  | d (d : PyData)
  | o
def ThOk (K : PySem.W.Frag) (H : Hp) (v : V) : Th → Prop
  | .d d => Dp K H v d
  | .o => ∃ t, TyX K H v t ∧ ∀ T : Kd, PySem.W.kitOne K t (.type (kdN T)) = some false
def Th.is (T : Kd) : Th → Bool
  | Th.d x => isTy T x
  | Th.o => false
/-- its type and isinstance's answers -/
theorem ThOk.ty {K : PySem.W.Frag} {H : Hp} {v : V} {th : Th} (h : ThOk K H v th) : ∃ t, TyX K H v t ∧ ∀ T : Kd, PySem.W.kitOne K t (.type (kdN T)) = some (th.is T) := by
  cases th with
  | d d => exact ⟨_, Dp.ty h, fun T => kit_d K T d⟩
  | o => exact h
def isWholeT (th : Th) : Bool := th.is .int && !th.is .bl
def isWholeD : PyData → Bool
  | .int _ => true
  | _ => false
theorem isWholeT_d (d : PyData) : isWholeT (.d d) = isWholeD d := by cases d <;> rfl
def isValD : PyData → Bool
  | .tuple [.int a, .int b] => !decide (b < 1) && decide (cd a b = 1)
  | _ => false
def isValT : Th → Bool
  | Th.d x => isValD x
  | Th.o => false
end EL
namespace EL
open PySem PySem.Spec PyProof.Rows L2 He TL
/-! ### keywords alone -/
section
variable {K : PySem.W.Frag} {x qual : Str} {params : Arguments} {body : List Stmt} {scope : Scope} {dvs : List V} {kws : List (Str × V)} {f : Addr} {fd : FuncData} {ps : List Str}
theorem kbinds1 (F : FunD K x qual params body scope dvs kws f fd) (n : Nat) (ks : List Str) (g : {α : Type} → List α → List α → List α → List α) (hd : dvs ≠ [])
    (hrel : ∀ {vs ds zs : List V} {us its ws : List Value}, Vals vs us → Vals ds its → Vals zs ws → Vals (g vs ds zs) (g us its ws))
    (h : ∀ (T : Addr) (kV doc pm : Value) (an : Option Addr) (cdv ct : Value) (us its ws : List Value), us.length = n → its.length = dvs.length → ws.length = ks.length →
      ∃ k, bindArgs (PySem.W.fnOf x qual params body scope (.ref T) kV doc pm an cdv ct) ⟨us, ks.zip ws⟩ = seqItems? (.ref T) >>= k ∧ k (some its.toArray) = pure (ps.zip (g us its ws))) :
    ∃ its : List Value, KBn K fd ps n ks (fun us ws => g us its ws) (fun vs zs => g vs dvs zs) := by
  obtain ⟨oc, od, dV, kV, doc, pm, an, cdv, ct, osl, rfl, lk, hcd, hD, hK⟩ := F.ex
  rcases hD with ⟨e, _⟩ | ⟨_, T, o, its, m, rfl, lT, oT, rT⟩
  · exact absurd e hd
  · refine ⟨its, ⟨fun s us ws X h1 h2 => ?_, fun r rz => hrel r rT rz⟩⟩
    obtain ⟨k, e1, e2⟩ := h T kV doc pm an cdv ct us its ws h1 rT.length.symm h2
    refine BindsTo.of_looks fun M => ?_
    rw [e1]
    exact looks_items X lT oT (.of_pure e2)
end
section
variable {X : Cx} {CX : CXT} {k : Nat} {f : Addr} {fd : FuncData} {ps ks : List Str} {sp : Sp} {E : XK} {x : Str} {p pos : Pos} {kws : List Keyword} {tk : TA} {g : List Value → List Value → List Value} {gV : List V → List V → List V}
/-- f(k = v, ..) -/
theorem pe_callN0 (F : FnOk X.prog X.w X.K X.mg X.base CX k f fd ps sp) (hr : Room k X.A) (hg : Gl X x) (hm : X.mg x = some (.ref f)) (hk : PySem.W.keepIn X.K (.ref f) = true) (hb : KBn X.K fd ps 0 ks g gV) (hx : Passes CX X E)
    (hkw : PK X kws tk) (hall : (backToKw pos (keywordEach kws X.env)).all (·.1.isSome) = true := by rfl) (hks : (backToKw pos (keywordEach kws X.env)).filterMap (·.1) = ks := by rfl)
    (hdb : (x == ("__debug__" : Str)) = false := by decide) (hpl : ((backTo pos (starEach [] X.env)).any (·.1) || (backToKw pos (keywordEach kws X.env)).any (·.1.isNone)) = false := by rfl) :
    PE X (.Call (.Name x p) [] kws pos) (tCallN 0 ks.length sp gV E tNil tk) := by
  refine ⟨fun pins s σ H Q I h => ?_⟩
  refine wpAny_Call_Name_kw (ld_glob I hg hm ?_ hdb)
  refine PySem.W.callWith_KW0 (h₀ := X.base) I.ok.mod.kin hk hall ?_ hpl
  refine thn (hkw.run pos pins s σ H _ I h) fun ws s2 ⟨zs, H2, I2, rz, l1, l2, q2⟩ => ⟨I2.kIn, ?_⟩
  rw [hks]
  exact run_fnN (us := []) (vs := []) F hr hb hx I2 .nil rz rfl l2 q2
end
/-! ### texts of numbers -/
theorem str_nil (x : Str) : Str.empty ++ x = x := ext_tl (by rw [tl_append]; rfl)
theorem natDigits_len {n k : Nat} (hk : 0 < k) (h : n < 10 ^ k) : (numL n).length ≤ k := numL_len hk h
/-- the signs of an int -/
def intL (a : Int) : List Nat := if a < 0 then 45 :: numL a.natAbs else numL a.natAbs
theorem tl_int (a : Int) : tl (Str.ofString (toString a)) = intL a := by
  cases a with
  | ofNat n => exact tl_num n
  | negSucc n =>
    unfold intL
    rw [if_pos (by omega), tl_ofString]
    show ("-" ++ Nat.repr (n + 1)).toList.map Char.toNat = 45 :: numL (n + 1)
    rw [String.toList_append, List.map_append, Nat.toList_repr]
    rfl
theorem numL_len1000 {n : Nat} (h : n < 2 ^ 1000) : (numL n).length ≤ 1000 := numL_len (by decide) (Nat.lt_of_lt_of_le h (Nat.pow_le_pow_left (by decide) _))
theorem len_int {a : Int} (h : a.natAbs < 2 ^ 1000) : (Str.ofString (toString a)).length ≤ 1001 := by
  rw [len_tl, tl_int]
  have := numL_len1000 h
  unfold intL
  split
  · rw [List.length_cons]
    omega
  · omega
/-- what a text of digits is worth -/
def isDig (c : Nat) : Bool := decide (48 ≤ c) && decide (c ≤ 57)
def rdD (cs : List Nat) : Option Nat := if (1 ≤ cs.length ∧ cs.length ≤ 40) ∧ cs.all isDig = true ∧ ¬ (1 < cs.length ∧ cs.head? = some 48) then some (NumText.digitsVal cs) else none
def optV : Option Nat → V
  | none => .non
  | some n => .int n
/-- a text as value reads it -/
def rdP (cs : List Nat) : List Nat × Option (List Nat) := match par [47] [] cs with
  | none => (cs, none)
  | some (a, b) => (a, some b)
def rdB : Option (List Nat) → Option Nat
  | none => some 1
  | some u => match rdD u with
    | some b => if 2 ≤ b then some b else none
    | none => none
def rdF (below : Bool) : Option Nat → Option Nat → Option (Int × Int)
  | some b, some t => if (below && decide (t = 0)) || decide (Nat.gcd t b ≠ 1) then none else some (if below then -(t : Int) else (t : Int), (b : Int))
  | _, _ => none
def rdV (cs : List Nat) : Option (Int × Int) :=
  rdF (decide (cs.take 1 = [45])) (rdB (rdP (if decide (cs.take 1 = [45]) = true then cs.drop 1 else cs)).2) (rdD (rdP (if decide (cs.take 1 = [45]) = true then cs.drop 1 else cs)).1)
theorem par_split {s : Nat} : ∀ (cs acc a b : List Nat), par [s] acc cs = some (a, b) → acc ++ cs = a ++ s :: b
  | [], acc, a, b, h => by simp [par] at h
  | c :: r, acc, a, b, h => by
    by_cases e : c = s
    · subst e
      rw [par_hit (by simp [pre])] at h
      injection h with h
      injection h with h1 h2
      rw [← h1, ← h2]
      rfl
    · rw [par_miss (pre_of_head [] r e)] at h
      have := par_split r (acc ++ [c]) a b h
      rw [← this]
      simp
end EL
namespace EL
open PySem PySem.Spec PyProof.Rows L2 He TL
theorem tl_cut_to (z : Str) (k : Nat) : tl (cutS z none (some (k : Int))) = (tl z).take k := by
  show ((tl z).drop (HT.sIx z.length 0 none)).take (HT.sIx z.length z.length (some (k : Int)) - HT.sIx z.length 0 none) = (tl z).take k
  rw [HT.sIx_none, HT.sIx_nat, List.drop_zero, Nat.sub_zero, len_tl]
  by_cases h : k ≤ (tl z).length
  · rw [Nat.min_eq_left h]
  · rw [Nat.min_eq_right (by omega), List.take_length, List.take_of_length_le (by omega)]
theorem tl_cut_from (z : Str) (k : Nat) : tl (cutS z (some (k : Int)) none) = (tl z).drop k := by
  show ((tl z).drop (HT.sIx z.length 0 (some (k : Int)))).take (HT.sIx z.length z.length none - HT.sIx z.length 0 (some (k : Int))) = (tl z).drop k
  rw [HT.sIx_none, HT.sIx_nat, len_tl]
  by_cases h : k ≤ (tl z).length
  · rw [Nat.min_eq_left h, List.take_of_length_le (by rw [List.length_drop]; omega)]
  · rw [Nat.min_eq_right (by omega), List.drop_length, List.drop_of_length_le (by omega), List.take_nil]
theorem tl_digits : tl ("0123456789" : Str) = [48, 49, 50, 51, 52, 53, 54, 55, 56, 57] := by decide +kernel
theorem mem_digits (c : Nat) : decide (c ∈ tl ("0123456789" : Str)) = isDig c := by
  rw [tl_digits]
  unfold isDig
  rw [← Bool.decide_and]
  refine decide_eq_decide.mpr ?_
  simp only [List.mem_cons, List.not_mem_nil, or_false]
  omega
theorem str_one {c : Nat} {y : Str} {d : Nat} (hy : tl y = [d]) : decide (V.str ⟨#[c]⟩ = V.str y) = decide (c = d) := by
  refine decide_eq_decide.mpr ⟨fun e => ?_, fun e => ?_⟩
  · have e1 : (⟨#[c]⟩ : Str) = y := by injection e
    rw [← e1] at hy
    have h2 : [c] = [d] := hy
    injection h2
  · have e1 : (⟨#[c]⟩ : Str) = y := ext_tl (by rw [hy, e])
    rw [e1]
theorem allDigits_of {cs : List Nat} (h : cs.all isDig = true) : NumText.AllDigits cs := fun c hc => by
  have := List.all_eq_true.mp h c hc
  unfold isDig at this
  rw [Bool.and_eq_true, decide_eq_true_eq, decide_eq_true_eq] at this
  exact this
theorem str_eq_tl {x y : Str} : decide (V.str x = V.str y) = decide (tl x = tl y) := decide_eq_decide.mpr ⟨fun e => by injection e with e; rw [e], fun e => by rw [ext_tl e]⟩
/-- a statement, then the rest, with a word between them -/
def tMid (t u : TS) : TS := fun D σ H => ∃ Mid : L2.St → Hp → Prop, t { D with nx := Mid } σ H ∧ ∀ σ' H', Mid σ' H' → u D σ' H'
theorem pss_mid {X : Cx} {st : Stmt} {rest : List Stmt} {t u : TS} (h1 : PS X st t) (h2 : PSs X rest u) : PSs X (st :: rest) (tMid t u) := by
  refine ⟨fun pins s σ H D I h => ?_⟩
  obtain ⟨Mid, hm, hu⟩ := h
  refine wpAny_execs_cons (thn (h1.run pins s σ H { D with nx := Mid } I hm) fun f s1 q => ?_)
  cases f with
  | next =>
    obtain ⟨σ', H', I', q⟩ := q
    exact h2.run pins s1 σ' H' D I' (hu σ' H' q)
  | ret v => exact q
  | brk => exact q
  | cont => exact q
end EL
namespace EL
open PySem PySem.Spec PyProof.Rows L2 He TL
/-! ### more facts of K, as Bools -/
theorem exG {l : List Bool} {b : Bool} (m : l.all id = true) (i : Nat) (h : l[i]? = some b) : b = true := List.all_eq_true.mp m b (List.mem_of_getElem? h)
def excCB (K : PySem.W.Frag) (D : Addr) : Bool := eqO (PySem.W.findIn K (.ref D) "__getattribute__") (some (some (.builtin "BaseException.__getattribute__"))) && (eqO (PySem.W.findIn K (.ref D) "__getattr__") (some none) &&
  (decide (PySem.W.subIn K (.ref D) (.type "BaseException") = some true) && (PySem.W.hasDictIn K D && (eqO (PySem.W.findIn K (.ref D) "__class__") (some (some (.builtin "object.__class__"))) &&
  (eqO (PySem.W.specialIn K (.builtin "object.__class__") "__get__") (some (some (.builtin "getset_descriptor.__get__"))) && (decide (PySem.W.takesIn K (.builtin "object.__class__") = some true) && decide (PySem.W.mroIn K D (.type "object") = some true)))))))
theorem excCB_ok {K : PySem.W.Frag} {D : Addr} (h : excCB K D = true) : ExcC K D := by
  obtain ⟨h1, h⟩ := ba h
  obtain ⟨h2, h⟩ := ba h
  obtain ⟨h3, h⟩ := ba h
  obtain ⟨h4, h⟩ := ba h
  obtain ⟨h5, h⟩ := ba h
  obtain ⟨h6, h⟩ := ba h
  obtain ⟨h7, h8⟩ := ba h
  exact ⟨eqO_ok h1, eqO_ok h2, of_decide_eq_true h3, h4, eqO_ok h5, eqO_ok h6, of_decide_eq_true h7, of_decide_eq_true h8⟩
/-- isinstance(e, c), e the exception of the class at D that the suite holds -/
theorem call_isX {X : Cx} {a : Addr} {oe : Obj} {pn : List (Addr × Obj)} {cls : Value} {d : Option Addr} (D : Addr) (C : ExcC X.K D) (hz : Zc cls d oe) (hf : ∃ vs, oe.data = .fields vs) :
    CallR (X.suite a ((a, oe) :: pn)) (.builtin "isinstance") (fun xs H Q => cls = .ref D ∧ d = none ∧ rIsE X.K D a xs H Q) := by
  intro pins s σ H xs us Q I r h
  obtain ⟨rfl, rfl, h⟩ := h
  exact call_isE C hz hf pins s σ H xs us Q I r h
/-! ### the law's source of draws -/
/-- the list [cells, place, digits, state] -/
def Src (H : Hp) (p l : Addr) : Prop := ∃ (ns : List Int) (i : Nat) (c r : Int), H p = some (.lst [.ref l, .int i, .int c, .int r]) ∧ H l = some (.lst (ns.map V.int)) ∧ 0 ≤ c ∧ 0 ≤ r ∧ r < 2147483647
/-- all but p is as it was -/
def But (p : Addr) (H H' : Hp) : Prop := ∀ b o, H b = some o → b ≠ p → H' b = some o
theorem But.refl (p : Addr) (H : Hp) : But p H H := fun _ _ h _ => h
theorem But.trans {p : Addr} {H H1 H2 : Hp} (a : But p H H1) (b : But p H1 H2) : But p H H2 := fun c o h n => b c o (a c o h n) n
theorem But.of {p : Addr} {H H' : Hp} (s : Same H H') : But p H H' := fun b o h _ => s b o h
theorem but_upd {p : Addr} {H : Hp} {o : HO} : But p H (upd H p o) := fun b x h n => by rw [upd_ne n]; exact h
theorem Src.same {H H' : Hp} {p l : Addr} (s : Same H H') (h : Src H p l) : Src H' p l := by
  obtain ⟨ns, i, c, r, h1, h2, h3⟩ := h
  exact ⟨ns, i, c, r, s _ _ h1, s _ _ h2, h3⟩
theorem Src.lst {H : Hp} {p l : Addr} (h : Src H p l) : ∃ xs, H p = some (.lst xs) := by
  obtain ⟨ns, i, c, r, h1, _⟩ := h
  exact ⟨_, h1⟩
theorem Src.lst2 {H : Hp} {p l : Addr} (h : Src H p l) : ∃ xs, H l = some (.lst xs) := by
  obtain ⟨ns, i, c, r, h1, h2, _⟩ := h
  exact ⟨_, h2⟩
theorem Src.ne {H : Hp} {p l : Addr} (h : Src H p l) : l ≠ p := fun e => by
  obtain ⟨ns, i, c, r, h1, h2, _⟩ := h
  subst e
  rw [h1] at h2
  injection h2 with h2
  injection h2 with h2
  cases ns with
  | nil => cases h2
  | cons x r => injection h2 with h2; cases h2
/-- another thing changes -/
theorem Src.but {H H' : Hp} {p l x : Addr} (s : But x H H') (h : Src H p l) (h1 : p ≠ x) (h2 : l ≠ x) : Src H' p l := by
  obtain ⟨ns, i, c, r, k1, k2, h3⟩ := h
  exact ⟨ns, i, c, r, s _ _ k1 h1, s _ _ k2 h2, h3⟩
theorem But.seqT {K : PySem.W.Frag} {p a : Addr} {H H' : Hp} {xs : List V} (s : But p H H') (hp : ∃ ys, H p = some (.lst ys)) (h : SqT K H a xs) : SqT K H' a xs := by
  obtain ⟨ys, hp⟩ := hp
  rcases h with (h | ⟨o, h⟩) | h
  · exact .inl (.inl (s _ _ h (ne_of h hp (by intro z; cases z))))
  · exact .inl (.inr ⟨o, s _ _ h (ne_of h hp (by intro z; cases z))⟩)
  · exact .inr h
end EL
namespace EL
open PySem PySem.Spec PyProof.Rows L2 He TL
/-! ### a written value is read back -/
def txtV (a b : Int) : Str := if b = 1 then (toString a : String) else ((toString a : String) : Str) ++ "/" ++ ((toString b : String) : Str)
theorem numL_head {n : Nat} (h : 1 ≤ n) : (numL n).head? ≠ some 48 := by
  induction n using Nat.strongRecOn with
  | _ n ih =>
    by_cases h10 : n < 10
    · rw [numL_lt h10]
      intro e
      have e2 : 48 + n = 48 := Option.some.inj e
      omega
    · rw [numL_step (by omega)]
      have hh := ih (n / 10) (by omega) (by omega)
      cases hc : numL (n / 10) with
      | nil => exact absurd hc (numL_ne _)
      | cons x r =>
        rw [hc] at hh
        exact hh
theorem rdD_num {n : Nat} (h : n < 10 ^ 40) : rdD (numL n) = some n := by
  unfold rdD
  have hl : (numL n).length ≤ 40 := numL_len (by decide) h
  have h1 : 1 ≤ (numL n).length := by
    cases hc : numL n with
    | nil => exact absurd hc (numL_ne _)
    | cons x r => simp
  rw [if_pos, numL_val]
  refine ⟨⟨h1, hl⟩, ?_, ?_⟩
  · refine List.all_eq_true.mpr fun c hc => ?_
    have := numL_digits n c hc
    unfold isDig
    rw [Bool.and_eq_true, decide_eq_true_eq, decide_eq_true_eq]
    exact this
  · rintro ⟨h2, h3⟩
    by_cases h0 : n < 10
    · rw [numL_lt h0] at h2
      exact absurd h2 (Nat.lt_irrefl 1)
    · exact numL_head (by omega) h3
theorem tl_txtV (a b : Int) : tl (txtV a b) = if b = 1 then intL a else intL a ++ 47 :: intL b := by
  unfold txtV
  by_cases h : b = 1
  · rw [if_pos h, if_pos h]
    exact tl_int a
  · rw [if_neg h, if_neg h, tl_append, tl_append, tl_int, tl_int, show tl ("/" : Str) = [47] by decide +kernel, List.append_assoc]
    rfl
theorem numL_first (n : Nat) : (numL n).take 1 ≠ [45] := fun e => by
  have : (45 : Nat) ∈ (numL n).take 1 := by rw [e]; simp
  exact numL_free (n := n) (s := 45) (.inl (by decide)) (List.mem_of_mem_take this)
theorem numL_app_first (n : Nat) (r : List Nat) : (numL n ++ r).take 1 ≠ [45] := fun e => by
  cases hc : numL n with
  | nil => exact absurd hc (numL_ne _)
  | cons x q =>
    rw [hc] at e
    have := numL_first n
    rw [hc] at this
    exact this e
theorem rdP_num (n : Nat) : rdP (numL n) = (numL n, none) := by
  unfold rdP
  rw [par_none1 (numL_free (.inl (by decide)))]
theorem rdP_two (n m : Nat) : rdP (numL n ++ 47 :: numL m) = (numL n, some (numL m)) := by
  unfold rdP
  rw [show numL n ++ 47 :: numL m = numL n ++ ([47] ++ numL m) from rfl, par_part1 (numL_free (.inl (by decide)))]
  rfl
theorem rdV_txt {a b : Int} (h : Low a b) (ha : a.natAbs < 10 ^ 40) (hb : b.natAbs < 10 ^ 40) : rdV (tl (txtV a b)) = some (a, b) := by
  obtain ⟨hb0, hg⟩ := h
  have hg' : Nat.gcd a.natAbs b.natAbs = 1 := by unfold cd at hg; omega
  have hbL : intL b = numL b.natAbs := by
    unfold intL
    rw [if_neg (by omega)]
  -- the body behind the sign, by its parts
  have body : ∀ cs : List Nat, cs = (if b = 1 then numL a.natAbs else numL a.natAbs ++ 47 :: numL b.natAbs) → rdB (rdP cs).2 = some b.natAbs ∧ rdD (rdP cs).1 = some a.natAbs := by
    intro cs hcs
    by_cases h1 : b = 1
    · rw [if_pos h1] at hcs
      rw [hcs, rdP_num]
      refine ⟨?_, rdD_num ha⟩
      rw [h1]
      rfl
    · rw [if_neg h1] at hcs
      rw [hcs, rdP_two]
      refine ⟨?_, rdD_num ha⟩
      simp only [rdB, rdD_num hb]
      exact if_pos (by omega)
  rw [tl_txtV]
  unfold rdV
  by_cases hn : a < 0
  · have e : (if b = 1 then intL a else intL a ++ 47 :: intL b) = 45 :: (if b = 1 then numL a.natAbs else numL a.natAbs ++ 47 :: numL b.natAbs) := by
      unfold intL
      rw [if_pos hn, if_neg (show ¬ b < 0 by omega)]
      split <;> rfl
    rw [e]
    obtain ⟨e1, e2⟩ := body _ rfl
    rw [show decide ((45 :: (if b = 1 then numL a.natAbs else numL a.natAbs ++ 47 :: numL b.natAbs)).take 1 = [45]) = true from rfl, if_pos rfl, List.drop_one, List.tail_cons, e1, e2]
    show (if (true && decide (a.natAbs = 0) || decide (Nat.gcd a.natAbs b.natAbs ≠ 1)) = true then none else some (-(a.natAbs : Int), (b.natAbs : Int))) = _
    rw [if_neg]
    · rw [show -(a.natAbs : Int) = a by omega, show (b.natAbs : Int) = b by omega]
    · rw [decide_eq_false (show ¬ a.natAbs = 0 by omega), Bool.and_false, Bool.false_or]
      exact fun z => of_decide_eq_true z hg'
  · have e : (if b = 1 then intL a else intL a ++ 47 :: intL b) = (if b = 1 then numL a.natAbs else numL a.natAbs ++ 47 :: numL b.natAbs) := by
      unfold intL
      rw [if_neg hn, if_neg (show ¬ b < 0 by omega)]
    rw [e]
    have hf : (if b = 1 then numL a.natAbs else numL a.natAbs ++ 47 :: numL b.natAbs).take 1 ≠ [45] := by
      split
      · exact numL_first _
      · exact numL_app_first _ _
    obtain ⟨e1, e2⟩ := body _ rfl
    rw [decide_eq_false hf, if_neg Bool.false_ne_true, e1, e2]
    show (if (false && decide (a.natAbs = 0) || decide (Nat.gcd a.natAbs b.natAbs ≠ 1)) = true then none else some ((a.natAbs : Int), (b.natAbs : Int))) = _
    rw [if_neg]
    · rw [show (a.natAbs : Int) = a by omega, show (b.natAbs : Int) = b by omega]
    · rw [Bool.false_and, Bool.false_or]
      exact fun z => of_decide_eq_true z hg'
theorem nrm_abs (t b : Int) : (nrm t b).1.natAbs ≤ t.natAbs ∧ (nrm t b).2.natAbs ≤ b.natAbs := by
  have k : ∀ x g : Int, g ∣ x → (x / g).natAbs ≤ x.natAbs := fun x g h => by
    rw [Int.natAbs_ediv_of_dvd h]
    exact Nat.div_le_self _ _
  unfold nrm
  split
  · have h1 := k (-t) _ (cd_dvd_l (-t) (-b))
    have h2 := k (-b) _ (cd_dvd_r (-t) (-b))
    rw [Int.natAbs_neg] at h1 h2
    exact ⟨h1, h2⟩
  · exact ⟨k t _ (cd_dvd_l t b), k b _ (cd_dvd_r t b)⟩
theorem nrm_neg {t b : Int} (h : b < 0) : nrm (-t) (-b) = nrm t b := by
  unfold nrm
  rw [if_pos h, if_neg (by omega)]
end EL
namespace EL
open PySem PySem.Spec PyProof.Rows L2 He TL
/-! ### texts of values, the other way about -/
theorem digitsVal_snoc' (cs : List Nat) (d : Nat) : NumText.digitsVal (cs ++ [d]) = NumText.digitsVal cs * 10 + (d - 48) := by
  unfold NumText.digitsVal
  rw [List.foldl_append]
  rfl
theorem snoc_of {cs : List Nat} (h : cs ≠ []) : ∃ i d, cs = i ++ [d] := ⟨cs.dropLast, cs.getLast h, (List.dropLast_concat_getLast h).symm⟩
theorem numL_back : ∀ (k : Nat) (cs : List Nat), cs.length = k → cs ≠ [] → cs.all isDig = true → ¬ (1 < cs.length ∧ cs.head? = some 48) → numL (NumText.digitsVal cs) = cs ∧ (cs.head? ≠ some 48 → 1 ≤ NumText.digitsVal cs)
  | 0, cs, hk, hne, _, _ => absurd (List.length_eq_zero_iff.mp hk) hne
  | k + 1, cs, hk, hne, ha, hz => by
    obtain ⟨i, d, rfl⟩ := snoc_of hne
    rw [List.all_append, Bool.and_eq_true] at ha
    have hd : 48 ≤ d ∧ d ≤ 57 := by
      have := ha.2
      simp only [List.all_cons, List.all_nil, Bool.and_true, isDig, Bool.and_eq_true, decide_eq_true_eq] at this
      exact this
    rw [digitsVal_snoc']
    cases hi : i with
    | nil =>
      have e : NumText.digitsVal [] = 0 := rfl
      rw [e, Nat.zero_mul, Nat.zero_add, numL_lt (by omega)]
      refine ⟨?_, fun hh => ?_⟩
      · show [48 + (d - 48)] = [d]
        rw [show 48 + (d - 48) = d by omega]
      · have : d ≠ 48 := fun z => hh (by rw [z]; rfl)
        omega
    | cons x r =>
      have hl : i.length = k := by
        rw [List.length_append, List.length_singleton] at hk
        omega
      have hh : (i ++ [d]).head? = i.head? := by rw [hi]; rfl
      have h48 : i.head? ≠ some 48 := fun z => hz ⟨by rw [List.length_append, hi]; simp, by rw [hh]; exact z⟩
      obtain ⟨e1, e2⟩ := numL_back k i hl (by rw [hi]; simp) ha.1 (fun z => h48 z.2)
      have e3 := e2 h48
      rw [← hi]
      refine ⟨?_, fun _ => by omega⟩
      rw [numL_step (by omega), show (NumText.digitsVal i * 10 + (d - 48)) / 10 = NumText.digitsVal i by omega, show (NumText.digitsVal i * 10 + (d - 48)) % 10 = d - 48 by omega, e1, show 48 + (d - 48) = d by omega]
theorem rdD_inv {cs : List Nat} {n : Nat} (h : rdD cs = some n) : cs = numL n ∧ n < 10 ^ 40 := by
  unfold rdD at h
  split at h
  · rename_i c
    injection h with h
    have hne : cs ≠ [] := fun e => by rw [e] at c; exact absurd c.1.1 (by decide)
    have e := (numL_back cs.length cs rfl hne c.2.1 c.2.2).1
    rw [h] at e
    refine ⟨e.symm, ?_⟩
    have hl : (numL n).length ≤ 40 := by rw [e]; exact c.1.2
    exact Nat.lt_of_not_le fun hge => by
      have : ∀ (k m : Nat), 10 ^ k ≤ m → k + 1 ≤ (numL m).length := by
        intro k
        induction k with
        | zero =>
          intro m _
          cases hm : numL m with
          | nil => exact absurd hm (numL_ne _)
          | cons x r => simp
        | succ k ih =>
          intro m hm
          have h10 : 10 ≤ m := Nat.le_trans (by rw [Nat.pow_succ]; have : 0 < 10 ^ k := Nat.pow_pos (by decide); omega) hm
          rw [numL_step h10, List.length_append]
          have := ih (m / 10) ((Nat.le_div_iff_mul_le (by decide)).mpr (by rw [Nat.pow_succ] at hm; exact hm))
          simp only [List.length_singleton]
          omega
      have := this 40 n hge
      omega
  · cases h
theorem spl_par {s : Nat} : ∀ (cs acc : List Nat), spl [s] 0 acc cs = (match par [s] acc cs with | none => [acc ++ cs] | some (a, b) => a :: spl [s] 0 [] b)
  | [], acc => by
    rw [spl_nil]
    simp [par]
  | c :: r, acc => by
    by_cases e : c = s
    · subst e
      rw [spl_hit (by simp [pre]), par_hit (by simp [pre])]
      rfl
    · rw [spl_miss (pre_of_head [] r e), par_miss (pre_of_head [] r e), spl_par r (acc ++ [c])]
      cases par [s] (acc ++ [c]) r with
      | none => simp
      | some ab => rfl
theorem par_some {s : Nat} : ∀ (cs acc : List Nat), s ∈ cs → ∃ a b, par [s] acc cs = some (a, b)
  | [], _, h => by cases h
  | c :: r, acc, h => by
    by_cases e : c = s
    · subst e
      exact ⟨acc, r, by rw [par_hit (by simp [pre])]; rfl⟩
    · rw [par_miss (pre_of_head [] r e)]
      exact par_some r _ (by
        rcases List.mem_cons.mp h with z | z
        · exact absurd z.symm e
        · exact z)
theorem rdD_free {cs : List Nat} (h : 47 ∈ cs) : rdD cs = none := by
  unfold rdD
  refine if_neg fun c => ?_
  have := List.all_eq_true.mp c.2.1 47 h
  exact absurd this (by decide)
/-- what read_value takes, text_of writes -/
theorem rdV_inv {cs : List Nat} {a b : Int} (h : rdV cs = some (a, b)) : tl (txtV a b) = cs ∧ Low a b ∧ a.natAbs < 10 ^ 40 ∧ b.natAbs < 10 ^ 40 := by
  unfold rdV at h
  generalize hbd : (if decide (cs.take 1 = [45]) = true then cs.drop 1 else cs) = bd at h
  cases hB : rdB (rdP bd).2 with
  | none =>
    rw [hB] at h
    cases h
  | some n =>
    cases hD : rdD (rdP bd).1 with
    | none =>
      rw [hB, hD] at h
      cases h
    | some m =>
      rw [hB, hD] at h
      generalize hbl : decide (cs.take 1 = [45]) = below at *
      have h' : (if (below && decide (m = 0) || decide (Nat.gcd m n ≠ 1)) = true then none else some (if below then -(m : Int) else (m : Int), (n : Int))) = some (a, b) := h
      split at h'
      · cases h'
      · rename_i c
        injection h' with h'
        injection h' with ea eb
        have hg : Nat.gcd m n = 1 := by
          cases hd : decide (Nat.gcd m n ≠ 1) with
          | true => rw [hd, Bool.or_true] at c; exact absurd rfl c
          | false => exact Decidable.not_not.mp (of_decide_eq_false hd)
        have hbz : below = true → m ≠ 0 := fun hb z => by
          rw [hb, z] at c
          exact c rfl
        obtain ⟨e1, m40⟩ := rdD_inv hD
        -- the body
        have body : bd = (if n = 1 then numL m else numL m ++ 47 :: numL n) ∧ 1 ≤ n ∧ n < 10 ^ 40 := by
          unfold rdP at hB e1
          cases hp : par [47] [] bd with
          | none =>
            rw [hp] at hB e1
            have en : 1 = n := Option.some.inj hB
            rw [if_pos en.symm]
            exact ⟨e1, by omega, by rw [← en]; decide⟩
          | some xy =>
            obtain ⟨x, y⟩ := xy
            rw [hp] at hB e1
            have hB' : (match rdD y with | some b => if 2 ≤ b then some b else none | none => none) = some n := hB
            cases hy : rdD y with
            | none =>
              rw [hy] at hB'
              cases hB'
            | some k =>
              rw [hy] at hB'
              have hB2 : (if 2 ≤ k then some k else none) = some n := hB'
              split at hB2
              · injection hB2 with hk
                subst hk
                obtain ⟨e2, k40⟩ := rdD_inv hy
                rw [if_neg (by omega)]
                have e3 : x = numL m := e1
                refine ⟨?_, by omega, k40⟩
                rw [← e3, ← e2]
                exact (par_split _ _ _ _ hp)
              · cases hB2
        obtain ⟨hbody, hn1, n40⟩ := body
        have hcs : cs = if below = true then 45 :: bd else bd := by
          cases below with
          | true =>
            have ht := of_decide_eq_true hbl
            rw [if_pos rfl] at hbd ⊢
            rw [← hbd, ← List.singleton_append, ← ht, List.take_append_drop]
          | false =>
            rw [if_neg Bool.false_ne_true] at hbd ⊢
            exact hbd
        have ebn : b.natAbs = n := by omega
        have eam : a.natAbs = m := by
          rw [← ea]
          split <;> omega
        refine ⟨?_, ⟨by omega, ?_⟩, by omega, by omega⟩
        · rw [tl_txtV, hcs, hbody]
          have hb1 : (b = 1) ↔ (n = 1) := by omega
          have hib : intL b = numL n := by
            unfold intL
            rw [if_neg (by omega), ebn]
          have hia : intL a = if below = true then 45 :: numL m else numL m := by
            unfold intL
            rw [eam]
            cases hbe : below with
            | true =>
              rw [hbe] at ea hbz
              have hm := hbz rfl
              rw [if_pos rfl] at ea ⊢
              rw [if_pos (by omega)]
            | false =>
              rw [hbe] at ea
              rw [if_neg Bool.false_ne_true] at ea ⊢
              rw [if_neg (by omega)]
          rw [hia, hib]
          by_cases h1 : n = 1
          · rw [if_pos h1, if_pos (hb1.mpr h1)]
          · rw [if_neg h1, if_neg (fun z => h1 (hb1.mp z))]
            cases below <;> rfl
        · unfold cd
          rw [eam, ebn, hg]
          rfl
theorem call_str_bool {X : Cx} : CallR X (.type "str") (fun xs H Q => ∃ b : Bool, xs = [.bl b] ∧ Q (.str (if b then "True" else "False")) H) := by
  intro pins s σ H xs us Q I r h
  obtain ⟨b, rfl, q⟩ := h
  obtain ⟨u, rfl, ru⟩ := vals1 r
  cases ru
  exact PySem.P.str_of_bool ⟨.str _, H, I.tok _, ⟨_, rfl⟩, q⟩
end EL
namespace K02
open PySem PySem.Spec PyProof.Rows L2 He TL EL
def topS (i : Nat) : Stmt := PySem.Challenge.pw_endlessasks_k02_whole_texts_of_values.main.body.getD i (.Pass ⟨0, 0, 0, 0⟩)
abbrev s_common_divisor : Stmt := (topS 6)
abbrev s_text_of : Stmt := (topS 7)
abbrev s_read_digits : Stmt := (topS 8)
abbrev s_read_value : Stmt := (topS 9)
abbrev s__law_begin : Stmt := (topS 11)
abbrev s__law_draw : Stmt := (topS 12)
abbrev s__law_letter : Stmt := (topS 13)
abbrev s__law_digits : Stmt := (topS 14)
abbrev s__law_plain : Stmt := (topS 15)
abbrev s__law_bent : Stmt := (topS 16)
abbrev s__law_text : Stmt := (topS 17)
abbrev s__law_number : Stmt := (topS 18)
abbrev s__law_due : Stmt := (topS 19)
abbrev s__law_read : Stmt := (topS 20)
abbrev s_law : Stmt := (topS 21)
theorem sc_common_divisor : FnScope ["one", "other"] ["one", "other"] (defScope s_common_divisor) := ⟨rfl, rfl, rfl, by decide +kernel, rfl, by decide +kernel, by decide +kernel⟩
theorem sc_text_of : FnScope ["worth"] ["worth"] (defScope s_text_of) := ⟨rfl, rfl, rfl, by decide +kernel, rfl, by decide +kernel, by decide +kernel⟩
theorem sc_read_digits : FnScope ["text", "sign"] ["text"] (defScope s_read_digits) := ⟨rfl, rfl, rfl, by decide +kernel, rfl, by decide +kernel, by decide +kernel⟩
theorem sc_read_value : FnScope ["text", "below", "over", "line", "under", "top", "bottom"] ["text"] (defScope s_read_value) := ⟨rfl, rfl, rfl, by decide +kernel, rfl, by decide +kernel, by decide +kernel⟩
theorem sc__law_begin : FnScope ["_law_script"] ["_law_script"] (defScope s__law_begin) := ⟨rfl, rfl, rfl, by decide +kernel, rfl, by decide +kernel, by decide +kernel⟩
theorem sc__law_draw : FnScope ["_law_source", "_law_limit", "_law_cell", "_law_digit"] ["_law_source", "_law_limit"] (defScope s__law_draw) := ⟨rfl, rfl, rfl, by decide +kernel, rfl, by decide +kernel, by decide +kernel⟩
theorem sc__law_letter : FnScope ["_law_source", "_law_letters"] ["_law_source"] (defScope s__law_letter) := ⟨rfl, rfl, rfl, by decide +kernel, rfl, by decide +kernel, by decide +kernel⟩
theorem sc__law_digits : FnScope ["_law_source", "_law_count", "_law_text_here", "_law_turn"] ["_law_source", "_law_count"] (defScope s__law_digits) := ⟨rfl, rfl, rfl, by decide +kernel, rfl, by decide +kernel, by decide +kernel⟩
theorem sc__law_plain : FnScope ["_law_source", "_law_count", "_law_text_here"] ["_law_source"] (defScope s__law_plain) := ⟨rfl, rfl, rfl, by decide +kernel, rfl, by decide +kernel, by decide +kernel⟩
theorem sc__law_bent : FnScope ["_law_source", "_law_text_here", "_law_kind", "_law_at"] ["_law_source", "_law_text_here"] (defScope s__law_bent) := ⟨rfl, rfl, rfl, by decide +kernel, rfl, by decide +kernel, by decide +kernel⟩
theorem sc__law_text : FnScope ["_law_source", "_law_text_here", "_law_turn"] ["_law_source"] (defScope s__law_text) := ⟨rfl, rfl, rfl, by decide +kernel, rfl, by decide +kernel, by decide +kernel⟩
theorem sc__law_number : FnScope ["_law_text_here", "_law_letter_here"] ["_law_text_here"] (defScope s__law_number) := ⟨rfl, rfl, rfl, by decide +kernel, rfl, by decide +kernel, by decide +kernel⟩
theorem sc__law_due : FnScope ["_law_text_here", "_law_body", "_law_parts", "_law_top", "_law_bottom", "_law_one", "_law_other", "_law_rest"] ["_law_text_here"] (defScope s__law_due) := ⟨rfl, rfl, rfl, by decide +kernel, rfl, by decide +kernel, by decide +kernel⟩
theorem sc__law_read : FnScope ["_law_text_here", "_law_made", "e"] ["_law_text_here"] (defScope s__law_read) := ⟨rfl, rfl, rfl, by decide +kernel, rfl, by decide +kernel, by decide +kernel⟩
theorem sc_law : FnScope ["_law_script", "_law_source", "_law_turn", "_law_text_here", "_law_due_here", "_law_actual", "_law_odd"] ["_law_script"] (defScope s_law) := ⟨rfl, rfl, rfl, by decide +kernel, rfl, by decide +kernel, by decide +kernel⟩
structure Txt (K : PySem.W.Frag) (mg : Str → Option Value) : Prop where
  g_common_divisor : mg "common_divisor" = some (.ref (ga K "common_divisor"))
  g_text_of : mg "text_of" = some (.ref (ga K "text_of"))
  g_read_digits : mg "read_digits" = some (.ref (ga K "read_digits"))
  g_read_value : mg "read_value" = some (.ref (ga K "read_value"))
  g__law_begin : mg "_law_begin" = some (.ref (ga K "_law_begin"))
  g__law_draw : mg "_law_draw" = some (.ref (ga K "_law_draw"))
  g__law_letter : mg "_law_letter" = some (.ref (ga K "_law_letter"))
  g__law_digits : mg "_law_digits" = some (.ref (ga K "_law_digits"))
  g__law_plain : mg "_law_plain" = some (.ref (ga K "_law_plain"))
  g__law_bent : mg "_law_bent" = some (.ref (ga K "_law_bent"))
  g__law_text : mg "_law_text" = some (.ref (ga K "_law_text"))
  g__law_number : mg "_law_number" = some (.ref (ga K "_law_number"))
  g__law_due : mg "_law_due" = some (.ref (ga K "_law_due"))
  g__law_read : mg "_law_read" = some (.ref (ga K "_law_read"))
  g_law : mg "law" = some (.ref (ga K "law"))
  x_AskError : XC K mg "AskError"
  x_NoValue : XC K mg "NoValue"
  g_MOST_DIGITS : ∃ u, mg "MOST_DIGITS" = some u ∧ RelV (.int 40) u
  g_DIGITS : ∃ u, mg "DIGITS" = some u ∧ RelV (.str "0123456789") u
  z_ValueError : mg "ValueError" = none
  z_abs : mg "abs" = none
  z_int : mg "int" = none
  z_len : mg "len" = none
  z_isinstance : mg "isinstance" = none
  z_str : mg "str" = none
  z_list : mg "list" = none
  z_range : mg "range" = none
  z_tuple : mg "tuple" = none
  e_NoValue_NoValue : PySem.W.exmOne K (.ref (ga K "NoValue")) (.ref (ga K "NoValue")) = some true
  f_common_divisor : ∃ fd, FunD K "common_divisor" "common_divisor" (defArgs s_common_divisor) (defBody s_common_divisor) (defScope s_common_divisor) ([] : List V) [] (ga K "common_divisor") fd
  f_text_of : ∃ fd, FunD K "text_of" "text_of" (defArgs s_text_of) (defBody s_text_of) (defScope s_text_of) ([] : List V) [] (ga K "text_of") fd
  f_read_digits : ∃ fd, FunD K "read_digits" "read_digits" (defArgs s_read_digits) (defBody s_read_digits) (defScope s_read_digits) ([] : List V) [] (ga K "read_digits") fd
  f_read_value : ∃ fd, FunD K "read_value" "read_value" (defArgs s_read_value) (defBody s_read_value) (defScope s_read_value) ([] : List V) [] (ga K "read_value") fd
  f__law_begin : ∃ fd, FunD K "_law_begin" "_law_begin" (defArgs s__law_begin) (defBody s__law_begin) (defScope s__law_begin) ([] : List V) [] (ga K "_law_begin") fd
  f__law_draw : ∃ fd, FunD K "_law_draw" "_law_draw" (defArgs s__law_draw) (defBody s__law_draw) (defScope s__law_draw) ([] : List V) [] (ga K "_law_draw") fd
  f__law_letter : ∃ fd, FunD K "_law_letter" "_law_letter" (defArgs s__law_letter) (defBody s__law_letter) (defScope s__law_letter) ([] : List V) [] (ga K "_law_letter") fd
  f__law_digits : ∃ fd, FunD K "_law_digits" "_law_digits" (defArgs s__law_digits) (defBody s__law_digits) (defScope s__law_digits) ([] : List V) [] (ga K "_law_digits") fd
  f__law_plain : ∃ fd, FunD K "_law_plain" "_law_plain" (defArgs s__law_plain) (defBody s__law_plain) (defScope s__law_plain) ([] : List V) [] (ga K "_law_plain") fd
  f__law_bent : ∃ fd, FunD K "_law_bent" "_law_bent" (defArgs s__law_bent) (defBody s__law_bent) (defScope s__law_bent) ([] : List V) [] (ga K "_law_bent") fd
  f__law_text : ∃ fd, FunD K "_law_text" "_law_text" (defArgs s__law_text) (defBody s__law_text) (defScope s__law_text) ([] : List V) [] (ga K "_law_text") fd
  f__law_number : ∃ fd, FunD K "_law_number" "_law_number" (defArgs s__law_number) (defBody s__law_number) (defScope s__law_number) ([] : List V) [] (ga K "_law_number") fd
  f__law_due : ∃ fd, FunD K "_law_due" "_law_due" (defArgs s__law_due) (defBody s__law_due) (defScope s__law_due) ([] : List V) [] (ga K "_law_due") fd
  f__law_read : ∃ fd, FunD K "_law_read" "_law_read" (defArgs s__law_read) (defBody s__law_read) (defScope s__law_read) ([] : List V) [] (ga K "_law_read") fd
  f_law : ∃ fd, FunD K "law" "law" (defArgs s_law) (defBody s_law) (defScope s_law) ([] : List V) [] (ga K "law") fd
  c_NoValue : ExcC K (ga K "NoValue")
  k_NoValue_ValueError : PySem.W.kitOne K (.ref (ga K "NoValue")) (.type "ValueError") = some true
end K02
namespace K02
open PySem PySem.Spec PyProof.Rows L2 He TL EL
section
variable {P : Program} {w : World} {K : PySem.W.Frag} {mg : Str → Option Value} {base : Heap}
/-! common_divisor -/
def spCD : Sp := fun vs H Q _ => ∃ a b : Int, vs = [.int a, .int b] ∧ Q (.int (cd a b)) H
theorem d_common_divisor (T : Txt K mg) : Dn P w K mg base CX0 1 "common_divisor" spCD := by
  obtain ⟨fd, F⟩ := T.f_common_divisor
  refine dnN T.g_common_divisor F (fun _ _ _ _ _ _ us hl => match us, hl with | [_, _], _ => rfl) sc_common_divisor (fun vs H Q E h => ?_) (fun cdv A outer s H vs Q E hr h => ?_)
  · obtain ⟨a, b, rfl, _⟩ := h
    rfl
  · obtain ⟨a, b, rfl, q⟩ := h
    refine ⟨_, PSs.nox (pss_cons (ps_par (i := 0) (j := 1) (by rfl) sc_common_divisor.nd rfl rfl (by decide) rfl rfl (pa_cons (pe_callB call_abs (by rfl) T.z_abs (by decide +kernel) (pa_cons (pv 0) pa_nil)) (pa_cons (pe_callB call_abs (by rfl) T.z_abs (by decide +kernel) (pa_cons (pv 1) pa_nil)) pa_nil)) (by rfl))
      (pss_cons (ps_while PassesOwn.never (pt_cmpR op_gt (pv 1) pe_int (nomark _))
      (pss_one (ps_par (i := 0) (j := 1) (by rfl) sc_common_divisor.nd rfl rfl (by decide) rfl rfl (pa_cons (pv 1) (pa_cons (pe_op op_mod (pv 0) (pv 1)) pa_nil)) (by rfl))))
      (pss_one (ps_ret (pv 0))))), ?_⟩
    refine ⟨_, rfl, _, rfl, _, rfl, _, rfl, _, _, rfl, ?_⟩
    refine ⟨fun m σ H' => ∃ x y : Nat, m = y ∧ σ = [some (.int x), some (.int y)] ∧ H' = H ∧ Nat.gcd x y = Nat.gcd a.natAbs b.natAbs, ⟨b.natAbs, a.natAbs, b.natAbs, rfl, ?_, rfl, rfl⟩, ?_⟩
    · have e : ∀ z : Int, (if z < 0 then -z else z) = (z.natAbs : Int) := fun z => by split <;> omega
      show [some (V.int _), some (V.int _)] = _
      rw [e, e]
    · rintro m σ H' ⟨x, y, em, rfl, rfl, hg⟩
      subst m
      refine ⟨_, rfl, _, _, rfl, rfl, _, rfl, ie (fun h1 => ?_) (fun h1 => ?_)⟩
      · have hy : 0 < y := by
          have := of_decide_eq_true h1
          omega
        refine ⟨_, fun σ' H2 hN => hN, _, rfl, _, rfl, _, rfl, _, _, rfl, rfl, (by show (0 : Int) < (y : Int); omega), _, _, rfl, ?_⟩
        exact ⟨x % y, Nat.mod_lt _ hy, y, x % y, rfl, rfl, rfl, by rw [← hg, Nat.gcd_comm x y, Nat.gcd_rec y x, Nat.gcd_comm]⟩
      · have hy : y = 0 := by
          have := of_decide_eq_false h1
          omega
        refine ⟨_, rfl, ?_⟩
        subst hy
        rw [Nat.gcd_zero_right] at hg
        unfold cd at q
        rw [← hg] at q
        exact q
/-! text_of -/
def spTextOf (K : PySem.W.Frag) : Sp := fun vs H Q _ => ∃ (p : Addr) (a b : Int), vs = [.ref p] ∧ SqT K H p [.int a, .int b] ∧ a.natAbs < 2 ^ 1000 ∧ b.natAbs < 2 ^ 1000 ∧ Q (.str (txtV a b)) H
theorem log_lt {a : Int} (h : a.natAbs < 2 ^ 1000) : a.natAbs.log2 < 1920 := Nat.lt_of_lt_of_le (PySem.Flt.log2_lt_of (by decide) h) (by decide)
theorem d_text_of (T : Txt K mg) : Dn P w K mg base CX0 1 "text_of" (spTextOf K) := by
  obtain ⟨fd, F⟩ := T.f_text_of
  refine dnN T.g_text_of F (fun _ _ _ _ _ _ us hl => match us, hl with | [_], _ => rfl) sc_text_of (fun vs H Q E h => ?_) (fun cdv A outer s H vs Q E hr h => ?_)
  · obtain ⟨p, a, b, rfl, _⟩ := h
    rfl
  · obtain ⟨p, a, b, rfl, h1, ha, hb, hq⟩ := h
    refine ⟨_, PSs.nox (pss_cons (ps_if (pt_cmpR op_eq (pe_ix ix_tup (pv 0) pe_int (fun _ _ => rfl)) pe_int (nomark _)) (pss_one (ps_ret (pe_joined1 (pe_fmt (pe_ix ix_tup (pv 0) pe_int (fun _ _ => rfl)))))) pss_nil)
      (pss_one (ps_ret (pe_joined (PJ.cons (pe_fmt (pe_ix ix_tup (pv 0) pe_int (fun _ _ => rfl))) (PJ.cons pe_str (PJ.cons (pe_fmt (pe_ix ix_tup (pv 0) pe_int (fun _ _ => rfl))) PJ.nil))))))), ?_⟩
    refine ⟨_, rfl, _, _, 1, _, rfl, rfl, h1, atI_nat (j := 1) rfl, rfl, _, rfl, ie (fun c => ?_) (fun c => ?_)⟩
    · have e : b = 1 := by
        have := of_decide_eq_true c
        injection this
      unfold txtV at hq
      rw [if_pos e] at hq
      exact ⟨_, rfl, _, _, 0, _, rfl, rfl, h1, atI_nat (j := 0) rfl, .inr ⟨_, rfl, log_lt ha, hq⟩⟩
    · have e : b ≠ 1 := fun z => by
        subst z
        exact absurd c (by decide)
      unfold txtV at hq
      rw [if_neg e] at hq
      have l1 := len_int ha
      have l2 := len_int hb
      rw [len_tl] at l1 l2
      refine ⟨_, rfl, _, _, 0, _, rfl, rfl, h1, atI_nat (j := 0) rfl, .inr ⟨_, rfl, log_lt ha, _, rfl, ?_, _, rfl, ?_, _, rfl, _, _, 1, _, rfl, rfl, h1, atI_nat (j := 1) rfl, .inr ⟨_, rfl, log_lt hb, _, rfl, ?_, ?_⟩⟩⟩
      · rw [str_nil, len_tl]
        exact small40 (by omega)
      · rw [str_nil, len_tl, tl_append, List.length_append]
        show _ + 1 ≤ sizeLine
        exact small40 (by omega)
      · rw [str_nil, len_tl, tl_append, tl_append, List.length_append, List.length_append]
        show _ + 1 + _ ≤ sizeLine
        exact small40 (by omega)
      · rw [str_nil]
        exact hq
/-! read_digits -/
def spReadDigits : Sp := fun vs H Q _ => ∃ z : Str, vs = [.str z] ∧ z.length ≤ 100000 ∧ Q (optV (rdD (tl z))) H
theorem d_read_digits (T : Txt K mg) : Dn P w K mg base CX0 1 "read_digits" spReadDigits := by
  obtain ⟨fd, F⟩ := T.f_read_digits
  refine dnN T.g_read_digits F (fun _ _ _ _ _ _ us hl => match us, hl with | [_], _ => rfl) sc_read_digits (fun vs H Q E h => ?_) (fun cdv A outer s H vs Q E hr h => ?_)
  · obtain ⟨z, rfl, _⟩ := h
    rfl
  · obtain ⟨z, rfl, hz, q⟩ := h
    have hz' : z.length ≤ sizeLine := small40 hz
    refine ⟨_, PSs.nox (pss_cons (ps_if (pt_not (pt_chain op_le op_le pe_int (pe_callB call_len_str (by rfl) T.z_len (by decide +kernel) (pa_cons (pv 0) pa_nil)) (pe_gv T.g_MOST_DIGITS))) (pss_one (ps_ret pe_non)) pss_nil)
      (pss_cons (ps_for PassesOwn.never rfl (pi_str (pv 0)) (pg_name (i := 1) sc_read_digits.nd rfl (.inl rfl))
      (pss_one (ps_if (pt_cmpR op_notIn_sign (pv 1) (pe_gv T.g_DIGITS) (by rfl)) (pss_one (ps_ret pe_non)) pss_nil)))
      (pss_cons (ps_if (PW.pt (pw_and (pt_cmpR op_gt (pe_callB call_len_str (by rfl) T.z_len (by decide +kernel) (pa_cons (pv 0) pa_nil)) pe_int (nomark _)) (pw_and1 (pt_cmpR op_eq (pe_ix ix_str (pv 0) pe_int (fun _ _ => rfl)) pe_str (nomark _))))) (pss_one (ps_ret pe_non)) pss_nil)
      (pss_one (ps_ret (pe_callTy call_int_str (by rfl) T.z_int (by decide +kernel) (pa_cons (pv 0) pa_nil))))))), ?_⟩
    have hlt := len_tl z
    by_cases hl : 1 ≤ (tl z).length ∧ (tl z).length ≤ 40
    · refine ⟨_, rfl, _, rfl, hz', _, _, rfl, rfl, _, rfl, if_pos_of (decide_eq_true (by omega)) ?_⟩
      refine ⟨_, _, rfl, rfl, _, rfl, ?_⟩
      rw [decide_eq_true (show ((z.length : Nat) : Int) ≤ 40 by omega)]
      refine iteF ?_
      refine ⟨_, rfl, _, rfl, for_it walk_str (fun i σ H' => ∃ v, σ = [some (.str z), v] ∧ H' = H ∧ ((tl z).take i).all isDig = true) ⟨none, rfl, rfl, rfl⟩ (fun _ _ _ _ _ => trivial) ?_ ?_⟩
      · rintro i x σ H1 H2 hi ⟨v, rfl, rfl, ha⟩ ⟨rfl, c, hc, rfl⟩
        have hc' : (tl z)[i]? = some c := by rw [← hc]; simp
        refine ⟨_, rfl, _, _, rfl, rfl, _, rfl, ?_⟩
        rw [mem_digits]
        cases hd : isDig c with
        | true =>
          refine iteF ⟨_, rfl, rfl, ?_⟩
          rw [List.take_add_one, hc', List.all_append, ha]
          simp [hd]
        | false =>
          refine iteT ?_
          have e : rdD (tl z) = none := by
            unfold rdD
            refine if_neg fun h => ?_
            have := List.all_eq_true.mp h.2.1 c (List.mem_of_getElem? hc')
            rw [hd] at this
            cases this
          rw [e] at q
          exact q
      · rintro σ H1 ⟨v, rfl, rfl, ha⟩
        have ha' : (tl z).all isDig = true := by
          have e : z.cps.size = (tl z).length := by simp
          rw [e, List.take_length] at ha
          exact ha
        have hh : (tl z)[0]? = some ((tl z)[0]'(by omega)) := List.getElem?_eq_getElem (by omega)
        have fin : ¬ (1 < (tl z).length ∧ (tl z).head? = some 48) → ∃ (a : Str) (n : Int), [V.str z] = [V.str a] ∧ PySem.intText? a = some n ∧ a.length ≤ 640 ∧ Q (.int n) H1 := fun hn => by
          have e : rdD (tl z) = some (NumText.digitsVal (tl z)) := by
            unfold rdD
            exact if_pos ⟨hl, ha', hn⟩
          rw [e] at q
          exact ⟨z, _, rfl, PySem.intText_digits (allDigits_of ha') (fun e => by rw [show tl z = [] from e] at hl; exact absurd hl.1 (by decide)) (by omega), by omega, q⟩
        refine ⟨_, rfl, _, rfl, hz', _, _, rfl, rfl, _, rfl, ie (fun c => ?_) (fun c => ?_)⟩
        · have c1 := of_decide_eq_true c
          refine ⟨_, rfl, z, 0, _, rfl, rfl, hz', atI_nat (j := 0) hh, rfl, _, rfl, ?_⟩
          rw [str_one (d := 48) (by decide +kernel)]
          refine ie (fun c2 => ?_) (fun c2 => ?_)
          · have c2 := of_decide_eq_true c2
            have e : rdD (tl z) = none := by
              unfold rdD
              refine if_neg fun h => h.2.2 ⟨by omega, ?_⟩
              rw [List.head?_eq_getElem?, hh, c2]
            rw [e] at q
            exact q
          · have c2 := of_decide_eq_false c2
            refine ⟨_, rfl, fin fun h => c2 ?_⟩
            rw [List.head?_eq_getElem?, hh] at h
            exact Option.some.inj h.2
        · have c1 := of_decide_eq_false c
          exact ⟨_, rfl, fin fun h => c1 (by omega)⟩
    · have e : rdD (tl z) = none := by
        unfold rdD
        exact if_neg fun h => hl h.1
      rw [e] at q
      refine ⟨_, rfl, _, rfl, hz', _, _, rfl, rfl, _, rfl, ie (fun c => ?_) (fun c => ?_)⟩
      · have c1 := of_decide_eq_true c
        refine ⟨_, _, rfl, rfl, _, rfl, ?_⟩
        rw [decide_eq_false (show ¬ ((z.length : Nat) : Int) ≤ 40 by omega)]
        exact q
      · exact ⟨_, rfl, q⟩
/-! read_value -/
def spReadValue (K : PySem.W.Frag) : Sp := fun vs H Q E => ∃ v th, vs = [v] ∧ ThOk K H v th ∧ ((¬ ∃ z, th = .d (.str z)) → E (.ref (ga K "NoValue")) none H) ∧
  ∀ z : Str, th = .d (.str z) → z.length ≤ 100000 ∧ (rdV (tl z) = none → ∀ H', Same H H' → E (.ref (ga K "NoValue")) none H') ∧ ∀ a b : Int, rdV (tl z) = some (a, b) → ∀ p H', H p = none → Same H H' → H' p = some (.tup [.int a, .int b]) → Q (.ref p) H'
theorem len_mk (l : List Nat) : (⟨l.toArray⟩ : Str).length = l.length := by rw [len_tl]
theorem d_read_value (T : Txt K mg) : Dn P w K mg base (L2.CX P w) 2 "read_value" (spReadValue K) := by
  obtain ⟨fd, F⟩ := T.f_read_value
  have D_read_digits := d_read_digits (P := P) (w := w) (base := base) T
  have D_common_divisor := d_common_divisor (P := P) (w := w) (base := base) T
  refine dnN T.g_read_value F (fun _ _ _ _ _ _ us hl => match us, hl with | [_], _ => rfl) sc_read_value (fun vs H Q E h => ?_) (fun cdv A outer s H vs Q E hr h => ?_)
  · obtain ⟨v, th, rfl, _⟩ := h
    rfl
  · obtain ⟨v, th, rfl, ht, hE, hz⟩ := h
    obtain ⟨t, ty, ki⟩ := ht.ty
    refine ⟨_, (pss_cons (ps_if (pt_not (pt_val (pe_callB call_isi (by rfl) T.z_isinstance (by decide +kernel) (pa_cons (pv 0) (pa_cons (pe_bltn (v := .ty "str") (by rfl) T.z_str (by decide +kernel) rfl) pa_nil))))) (pss_one (rs (by rfl) (takes_of rfl rfl rfl rfl) T.x_NoValue (by rfl))) pss_nil)
      (pss_cons (ps_set (i := 1) sc_read_value.nd rfl (.inl rfl) (pe_cmpR op_eq (pe_slice sl_str (pv 0) po_none (po_some pe_int)) pe_str (nomark _)))
      (pss_cons (ps_asg (pe_partition (pe_slice sl_str (pv 0) (po_some (pe_callTy call_int1 (by rfl) T.z_int (by decide +kernel) (pa_cons (pv 1) pa_nil))) po_none) pe_str) (pg_tup rfl (pgs_cons (pg_name (i := 2) sc_read_value.nd rfl (.inl rfl)) (pgs_cons (pg_name (i := 3) sc_read_value.nd rfl (.inl rfl)) (pgs_cons (pg_name (i := 4) sc_read_value.nd rfl (.inl rfl)) pgs_nil)))))
      (pss_cons (ps_set (i := 5) sc_read_value.nd rfl (.inl rfl) (cl D_read_digits (hr.mono (by decide)) (pa_cons (pv 2) pa_nil)))
      (pss_cons (ps_set (i := 6) sc_read_value.nd rfl (.inl rfl) pe_int)
      (pss_mid (ps_if (pt_cmpR op_eq (pv 3) pe_str (nomark _)) (pss_cons (ps_set (i := 6) sc_read_value.nd rfl (.inl rfl) (cl D_read_digits (hr.mono (by decide)) (pa_cons (pv 4) pa_nil)))
      (pss_one (ps_if (PW.pt (pw_or (pt_cmpR op_isN (pv 6) pe_non (nomark _)) (pw_or1 (pt_cmpR op_lt (pv 6) pe_int (nomark _))))) (pss_one (rs (by rfl) (takes_of rfl rfl rfl rfl) T.x_NoValue (by rfl))) pss_nil))) pss_nil)
      (pss_cons (ps_if (PW.pt (pw_or (pt_cmpR op_isN (pv 5) pe_non (nomark _)) (pw_or1 (PW.pt (pw_and (pt_val (pv 1)) (pw_and1 (pt_cmpR op_eq (pv 5) pe_int (nomark _)))))))) (pss_one (rs (by rfl) (takes_of rfl rfl rfl rfl) T.x_NoValue (by rfl))) pss_nil)
      (pss_cons (ps_if (pt_cmpR op_ne (cl D_common_divisor (hr.mono (by decide)) (pa_cons (pv 5) (pa_cons (pv 6) pa_nil))) pe_int (nomark _)) (pss_one (rs (by rfl) (takes_of rfl rfl rfl rfl) T.x_NoValue (by rfl))) pss_nil)
      (pss_cons (ps_if (pt_val (pv 1)) (pss_one (ps_set (i := 5) sc_read_value.nd rfl (.inl rfl) (pe_un un_neg (pv 5)))) pss_nil)
      (pss_one (ps_ret (pe_tup (pa_cons (pv 5) (pa_cons (pv 6) pa_nil)))))))))))))), ?_⟩
    refine ⟨_, rfl, _, _, t, _, _, rfl, .ty _, ty, ki .str, _, rfl, ?_⟩
    by_cases hn : ∃ z, th = .d (.str z)
    · obtain ⟨z, rfl⟩ := hn
      obtain ⟨hl, hN, hS⟩ := hz z rfl
      cases ht
      refine iteF ?_
      have hl' : z.length ≤ sizeLine := small40 hl
      have hbel : decide (V.str (cutS z none (some 1)) = V.str "-") = decide ((tl z).take 1 = [45]) := by
        rw [str_eq_tl, show tl (cutS z none (some 1)) = (tl z).take 1 from tl_cut_to z 1, show tl ("-" : Str) = [45] by decide +kernel]
      -- below = text[:1] == '-'
      refine ⟨_, rfl, _, rfl, _, rfl, hl', rfl, ?_⟩
      generalize hbe : decide (V.str (cutS z none (some 1)) = V.str "-") = below at *
      have hb' : decide ((tl z).take 1 = [45]) = below := hbel.symm
      -- text[int(below):].partition('/')
      refine ⟨_, rfl, _, rfl, .inr ⟨_, rfl, _, rfl, z, rfl, hl', ⟨_, rfl⟩, _, _, rfl, rfl, (by decide +kernel), Nat.le_trans (cutS_length _ _ _) hl', fun pt hp1 => ?_⟩⟩
      generalize eH1 : upd H pt _ = H1
      have s1 : Same H H1 := eH1 ▸ same_upd hp1
      have h1 : H1 pt = some _ := eH1 ▸ upd_same
      have hcut : tl (cutS z (some (if below = true then (1 : Int) else 0)) none) = if below = true then (tl z).drop 1 else tl z := by
        cases below with
        | true => exact tl_cut_from z 1
        | false => exact (tl_cut_from z 0).trans (List.drop_zero ..)
      generalize hw : cutS z (some (if below = true then (1 : Int) else 0)) none = bd at *
      have hbl : bd.length ≤ 100000 := by rw [← hw]; exact Nat.le_trans (cutS_length _ _ _) hl
      have hpart := partition_par bd "/" (by decide +kernel)
      rw [show tl ("/" : Str) = [47] by decide +kernel] at hpart
      refine ⟨pt, _, rfl, SqT.of h1, rfl, _, _, rfl, _, _, rfl, _, _, rfl, rfl, ?_⟩
      -- the two readings
      have key : rdV (tl z) = rdF below (rdB (rdP (tl bd)).2) (rdD (rdP (tl bd)).1) := by
        unfold rdV
        rw [hb', hcut]
      generalize hpp : Txt.partition bd "/" = pp at *
      have hpl : pp.1.length ≤ 100000 ∧ tl pp.1 = (rdP (tl bd)).1 := by
        rw [hpart]
        unfold rdP
        cases hpar : par [47] [] (tl bd) with
        | none => exact ⟨hbl, rfl⟩
        | some ab =>
          obtain ⟨a, b⟩ := ab
          have e := par_split _ _ _ _ hpar
          refine ⟨?_, rfl⟩
          have e2 := congrArg List.length e
          rw [List.nil_append, List.length_append] at e2
          rw [len_tl] at hbl
          show (⟨a.toArray⟩ : Str).length ≤ 100000
          rw [len_mk]
          omega
      refine ⟨_, rfl, _, rfl, hpl.1, ?_⟩
      rw [hpl.2]
      -- if line == '/'
      refine ⟨fun σ' H' => H' = H1 ∧ ∃ b : Nat, rdB (rdP (tl bd)).2 = some b ∧
        σ' = [some (.str z), some (.bl below), some (.str pp.1), some (.str pp.2.1), some (.str pp.2.2), some (optV (rdD (rdP (tl bd)).1)), some (.int b)], ?_, ?_⟩
      · cases hpar : par [47] [] (tl bd) with
        | none =>
          rw [hpar] at hpart
          have e1 : pp.2.1 = Str.empty := by rw [hpart]
          have e2 : (rdP (tl bd)).2 = none := by unfold rdP; rw [hpar]
          refine ⟨_, rfl, rfl, _, rfl, ?_⟩
          rw [e1]
          refine if_neg_of (by decide +kernel) ⟨rfl, 1, ?_, rfl⟩
          rw [e2]
          rfl
        | some ab =>
          obtain ⟨a, b⟩ := ab
          rw [hpar] at hpart
          have e1 : pp.2.1 = "/" := by rw [hpart]
          have e2 : (rdP (tl bd)).2 = some b := by unfold rdP; rw [hpar]
          have e3 : tl pp.2.2 = b := by rw [hpart]
          rw [e2] at key ⊢
          refine ⟨_, rfl, rfl, _, rfl, ?_⟩
          rw [e1]
          refine if_pos_of (by decide +kernel) ?_
          have hbl2 : pp.2.2.length ≤ 100000 := by
            have e2 := congrArg List.length (par_split _ _ _ _ hpar)
            rw [List.nil_append, List.length_append, List.length_cons] at e2
            rw [len_tl] at hbl
            rw [len_tl, e3]
            omega
          refine ⟨_, rfl, _, rfl, hbl2, ?_⟩
          rw [e3]
          cases hd : rdD b with
          | none =>
            have e4 : rdB (some b) = none := by simp only [rdB, hd]
            rw [e4] at key
            refine ⟨_, rfl, rfl, _, rfl, iteT ?_⟩
            exact hN key H1 s1
          | some n =>
            have e4 : rdB (some b) = if 2 ≤ n then some n else none := by simp only [rdB, hd]
            rw [e4] at key ⊢
            refine ⟨_, rfl, rfl, _, rfl, iteF ?_⟩
            refine ⟨_, rfl, _, _, rfl, rfl, _, rfl, ie (fun c => ?_) (fun c => ?_)⟩
            · have c := of_decide_eq_true c
              rw [if_neg (by omega)] at key
              exact hN key H1 s1
            · have c := of_decide_eq_false c
              exact ⟨rfl, n, if_pos (by omega), rfl⟩
      · rintro σ' H' ⟨rfl, b, eb, rfl⟩
        rw [eb] at key
        cases hd : rdD (rdP (tl bd)).1 with
        | none =>
          rw [hd] at key
          refine ⟨_, rfl, rfl, _, rfl, iteT ?_⟩
          exact hN key _ s1
        | some n =>
          rw [hd] at key
          refine ⟨_, rfl, rfl, _, rfl, iteF ?_⟩
          refine ⟨_, rfl, _, rfl, ?_⟩
          have hcd : cd (n : Int) (b : Int) = ((Nat.gcd n b : Nat) : Int) := rfl
          -- what follows the two tests
          have fin : (below && decide (n = 0)) = false → Nat.gcd n b = 1 → ∀ (p : Addr) (H2 : Hp), H' p = none → Same H' H2 → H2 p = some (.tup [.int (if below then -(n : Int) else (n : Int)), .int (b : Int)]) → Q (.ref p) H2 := fun c1 c2 p H2 hp s2 h2 => by
            refine hS _ _ ?_ p H2 (s1.free hp) (s1.trans s2) h2
            rw [key]
            show (if (below && decide (n = 0) || decide (Nat.gcd n b ≠ 1)) = true then none else some (if below then -(n : Int) else (n : Int), (b : Int))) = _
            rw [c1, if_neg]
            rw [Bool.false_or]
            exact fun z => of_decide_eq_true z c2
          have bad : ((below && decide (n = 0)) || decide (Nat.gcd n b ≠ 1)) = true → E (.ref (ga K "NoValue")) none H' := fun c => by
            refine hN ?_ _ s1
            rw [key]
            show (if (below && decide (n = 0) || decide (Nat.gcd n b ≠ 1)) = true then none else some (if below then -(n : Int) else (n : Int), (b : Int))) = _
            rw [if_pos c]
          have e0 : decide (optV (some n) = V.int 0) = decide (n = 0) := decide_eq_decide.mpr ⟨fun e => by have e' : V.int (n : Int) = V.int 0 := e; injection e'; omega, fun e => by rw [e]; rfl⟩
          have e1 : decide (V.int (cd (n : Int) (b : Int)) = V.int 1) = decide (Nat.gcd n b = 1) := decide_eq_decide.mpr ⟨fun e => by injection e with e; rw [hcd] at e; omega, fun e => by rw [hcd, e]; rfl⟩
          cases hbb : below with
          | true =>
            rw [hbb] at fin bad
            refine iteT ⟨_, rfl, rfl, _, rfl, ?_⟩
            refine ie (fun c => bad (by rw [e0] at c; rw [c]; rfl)) (fun c => ?_)
            rw [e0] at c
            refine ⟨_, rfl, _, rfl, _, _, rfl, rfl, _, rfl, ?_⟩
            refine ie (fun c2 => bad ?_) (fun c2 => ?_) <;> rw [e1] at c2
            · rw [c]
              simpa using c2
            · have c3 : Nat.gcd n b = 1 := by simpa using c2
              refine ⟨_, rfl, _, rfl, iteT ?_⟩
              refine ⟨_, rfl, _, rfl, _, rfl, _, rfl, (by show 2 ≤ sizeLine; decide), fun p hp => ?_⟩
              exact fin (by rw [c]; rfl) c3 p _ hp (same_upd hp) upd_same
          | false =>
            rw [hbb] at fin bad
            refine iteF ?_
            refine iteF ?_
            refine ⟨_, rfl, _, rfl, _, _, rfl, rfl, _, rfl, ?_⟩
            refine ie (fun c2 => bad ?_) (fun c2 => ?_) <;> rw [e1] at c2
            · simpa using c2
            · have c3 : Nat.gcd n b = 1 := by simpa using c2
              refine ⟨_, rfl, _, rfl, iteF ?_⟩
              refine ⟨_, rfl, _, rfl, (by show 2 ≤ sizeLine; decide), fun p hp => ?_⟩
              exact fin rfl c3 p _ hp (same_upd hp) upd_same
    · have e1 : th.is .str = false := by
        cases th with
        | o => rfl
        | d d => cases d <;> first | rfl | exact absurd ⟨_, rfl⟩ hn
      rw [e1]
      exact hE hn
/-! _law_begin -/
def spBegin (K : PySem.W.Frag) : Sp := fun vs H Q _ => ∃ (a : Addr) (ns : List Int), vs = [.ref a] ∧ SqL K H a (ns.map V.int) ∧ ∀ p l H', H p = none → H l = none → Same H H' → Src H' p l → Q (.ref p) H'
theorem cut_map (ns : List Int) (lo hi : Option Int) : ∃ ms : List Int, cutV (ns.map V.int) lo hi = ms.map V.int := by
  unfold cutV
  rw [← List.map_drop, ← List.map_take]
  exact ⟨_, rfl⟩
theorem d_begin (T : Txt K mg) : Dn P w K mg base CX0 1 "_law_begin" (spBegin K) := by
  obtain ⟨fd, F⟩ := T.f__law_begin
  refine dnN T.g__law_begin F (fun _ _ _ _ _ _ us hl => match us, hl with | [_], _ => rfl) sc__law_begin (fun vs H Q E h => ?_) (fun cdv A outer s H vs Q E hr h => ?_)
  · obtain ⟨a, ns, rfl, _⟩ := h
    rfl
  · obtain ⟨a, ns, rfl, hS, q⟩ := h
    refine ⟨_, PSs.nox (pss_one (ps_ret (pe_lst (pa_cons (pe_callTy call_list_of (by rfl) T.z_list (by decide +kernel) (pa_cons (pe_slice sl_list (pv 0) po_none (po_some pe_int)) pa_nil)) (pa_cons pe_int (pa_cons pe_int (pa_cons pe_int pa_nil))))))), ?_⟩
    obtain ⟨ms, hm⟩ := cut_map ns none (some 63)
    refine ⟨_, rfl, _, rfl, _, _, rfl, hS, fun c nc => ?_⟩
    rw [hm]
    generalize eH1 : upd H c _ = H1
    have s1 : Same H H1 := eH1 ▸ same_upd nc
    have h1 : H1 c = some _ := eH1 ▸ upd_same
    refine ⟨_, _, rfl, .inl (SqL.of h1), fun l nl => ?_⟩
    generalize eH2 : upd H1 l _ = H2
    have s2 : Same H1 H2 := eH2 ▸ same_upd nl
    have h2 : H2 l = some _ := eH2 ▸ upd_same
    refine ⟨(by show 4 ≤ sizeLine; decide), fun p np => ?_⟩
    generalize eH3 : upd H2 p _ = H3
    have s3 : Same H2 H3 := eH3 ▸ same_upd np
    have h3 : H3 p = some _ := eH3 ▸ upd_same
    exact q p l H3 (s1.free (s2.free np)) (s1.free nl) (s1.trans (s2.trans s3)) ⟨ms, 0, 0, 7, h3, s3 _ _ h2, by omega, by omega, by omega⟩
/-! _law_draw -/
def spDraw : Sp := fun vs H Q _ => ∃ (p l : Addr) (L : Int), vs = [.ref p, .int L] ∧ 0 < L ∧ L ≤ 1000000000000000000 ∧ Src H p l ∧ ∀ (n : Int) (H' : Hp), 0 ≤ n → n < L → Src H' p l → But p H H' → Q (.int n) H'
theorem mulok {i j : Int} {a : Nat} (h1 : i.natAbs < 2 ^ 70) (h2 : j.natAbs < 2 ^ 70) : CMulW i j := wide_mul h1 h2 (by decide) (by decide) (by decide)
theorem pow18 : ((10 : Int) ^ (18 : Int).toNat) = 1000000000000000000 := by decide +kernel
theorem d_draw (T : Txt K mg) : Dn P w K mg base CX0 1 "_law_draw" spDraw := by
  obtain ⟨fd, F⟩ := T.f__law_draw
  refine dnN T.g__law_draw F (fun _ _ _ _ _ _ us hl => match us, hl with | [_, _], _ => rfl) sc__law_draw (fun vs H Q E h => ?_) (fun cdv A outer s H vs Q E hr h => ?_)
  · obtain ⟨p, l, L, rfl, _⟩ := h
    rfl
  · obtain ⟨p, l, L, rfl, hL0, hL1, hS, q⟩ := h
    obtain ⟨ns, i, c, r, h1, h2, hc, hr0, hr1⟩ := id hS
    have npl : l ≠ p := hS.ne
    have hpw : CPow 10 18 := ⟨by decide, by decide, by decide⟩
    refine ⟨_, PSs.nox (pss_mid (ps_if (PW.pt (pw_and (pt_cmpR op_lt (pe_ix ix_list (pv 0) pe_int (fun _ _ => rfl)) (pe_op op_pow pe_int pe_int) (nomark _)) (pw_and1 (pt_cmpR op_lt (pe_ix ix_list (pv 0) pe_int (fun _ _ => rfl)) (pe_callB call_len_seq (by rfl) T.z_len (by decide +kernel) (pa_cons (pe_ix ix_list (pv 0) pe_int (fun _ _ => rfl)) pa_nil)) (nomark _))))) (pss_cons (ps_set (i := 2) sc__law_draw.nd rfl (.inl rfl) (pe_callTy call_int1 (by rfl) T.z_int (by decide +kernel) (pa_cons (pe_ix ix_list (pe_ix ix_list (pv 0) pe_int (fun _ _ => rfl)) (pe_ix ix_list (pv 0) pe_int (fun _ _ => rfl)) (fun _ _ => rfl)) pa_nil)))
      (pss_cons (ps_asg (pe_op op_add (pe_ix ix_list (pv 0) pe_int (fun _ _ => rfl)) pe_int) (pg_sub (pv 0) pe_int set_list))
      (pss_cons (ps_asg pe_int (pg_sub (pv 0) pe_int set_list))
      (pss_mid (ps_if (pt_cmpR op_ge (pv 2) (pe_op op_pow pe_int pe_int) (nomark _)) (pss_one (ps_asg (pv 2) (pg_sub (pv 0) pe_int set_list))) pss_nil)
      (pss_one (ps_asg (pe_op op_mod (pe_op op_add (pe_op op_add (pe_op op_mulW (pe_ix ix_list (pv 0) pe_int (fun _ _ => rfl)) pe_int) (pe_op op_mod (pv 2) pe_int)) pe_int) pe_int) (pg_sub (pv 0) pe_int set_list))))))) pss_nil)
      (pss_cons (ps_if (pt_cmpR op_ge (pe_ix ix_list (pv 0) pe_int (fun _ _ => rfl)) (pe_op op_pow pe_int pe_int) (nomark _)) (pss_cons (ps_set (i := 3) sc__law_draw.nd rfl (.inl rfl) (pe_op op_mod (pe_ix ix_list (pv 0) pe_int (fun _ _ => rfl)) (pv 1)))
      (pss_cons (ps_asg (pe_op op_fdivW (pe_ix ix_list (pv 0) pe_int (fun _ _ => rfl)) (pv 1)) (pg_sub (pv 0) pe_int set_list))
      (pss_one (ps_ret (pv 3))))) pss_nil)
      (pss_cons (ps_asg (pe_op op_mod (pe_op op_add (pe_op op_mulW (pe_ix ix_list (pv 0) pe_int (fun _ _ => rfl)) pe_int) pe_int) pe_int) (pg_sub (pv 0) pe_int set_list))
      (pss_one (ps_ret (pe_op op_mod (pe_op op_fdivW (pe_ix ix_list (pv 0) pe_int (fun _ _ => rfl)) pe_int) (pv 1))))))), ?_⟩
    refine ⟨fun σ' H' => ∃ v2, σ' = [some (.ref p), some (.int L), v2, none] ∧ Src H' p l ∧ But p H H', ?_, ?_⟩
    · -- the first test
      refine ⟨_, rfl, _, _, 2, _, rfl, rfl, SqL.of h1, atI_nat (j := 2) rfl, _, _, rfl, rfl, hpw, _, _, rfl, rfl, _, rfl, ie (fun c1 => ?_) (fun c1 => ?_)⟩
      · refine ⟨_, rfl, _, _, 1, _, rfl, rfl, SqL.of h1, atI_nat (j := 1) rfl, _, rfl, _, _, 0, _, rfl, rfl, SqL.of h1, atI_nat (j := 0) rfl, _, _, rfl, .inl (SqL.of h2), _, _, rfl, rfl, _, rfl, ie (fun c2 => ?_) (fun c2 => ?_)⟩
        · have c2 := of_decide_eq_true c2
          rw [List.length_map] at c2
          have hi : i < ns.length := by omega
          have hg : (ns.map V.int)[i]? = some (.int ns[i]) := by
            rw [List.getElem?_map, List.getElem?_eq_getElem hi]
            rfl
          generalize ns[i] = z at hg
          -- _law_cell = int(_law_source[0][_law_source[1]])
          refine ⟨_, rfl, _, _, 0, _, rfl, rfl, SqL.of h1, atI_nat (j := 0) rfl, _, rfl, _, _, 1, _, rfl, rfl, SqL.of h1, atI_nat (j := 1) rfl, _, _, _, _, rfl, rfl, SqL.of h2, atI_nat hg, .inl ⟨_, rfl, ?_⟩⟩
          -- _law_source[1] = _law_source[1] + 1
          refine ⟨_, rfl, _, _, 1, _, rfl, rfl, SqL.of h1, atI_nat (j := 1) rfl, _, _, rfl, rfl, _, rfl, p, _, 1, 1, rfl, rfl, h1, rfl, ?_⟩
          generalize e3 : upd H p _ = H3
          have b3 : But p H H3 := e3 ▸ but_upd
          have h3 : H3 p = some (.lst [.ref l, .int (i + 1), .int c, .int r]) := e3 ▸ upd_same
          -- _law_source[2] = 0
          refine ⟨_, rfl, p, _, 2, 2, rfl, rfl, h3, rfl, ?_⟩
          generalize e4 : upd H3 p _ = H4
          have b4 : But p H3 H4 := e4 ▸ but_upd
          have h4 : H4 p = some (.lst [.ref l, .int (i + 1), .int 0, .int r]) := e4 ▸ upd_same
          -- if _law_cell >= 10 ** 18: _law_source[2] = _law_cell
          refine ⟨fun σ' H' => ∃ c' : Int, 0 ≤ c' ∧ σ' = [some (.ref p), some (.int L), some (.int z), none] ∧ But p H H' ∧ H' p = some (.lst [.ref l, .int (i + 1), .int c', .int r]), ?_, ?_⟩
          · refine ⟨_, rfl, _, _, rfl, rfl, hpw, _, _, rfl, rfl, _, rfl, ie (fun c3 => ?_) (fun c3 => ?_)⟩
            · have c3 := of_decide_eq_true c3
              rw [pow18] at c3
              refine ⟨_, rfl, _, rfl, p, _, 2, 2, rfl, rfl, h4, rfl, ?_⟩
              exact ⟨z, by omega, rfl, b3.trans (b4.trans but_upd), upd_same⟩
            · exact ⟨0, by omega, rfl, b3.trans b4, h4⟩
          · rintro σ' H5 ⟨c', hc', rfl, b5, h5⟩
            have hm : CMulW r 48271 := mulok (a := 0) (by omega) (by decide)
            have hmod : 0 ≤ (r * 48271 + z % 2147483629 + 11) % 2147483647 ∧ (r * 48271 + z % 2147483629 + 11) % 2147483647 < 2147483647 := ⟨Int.emod_nonneg _ (by decide), Int.emod_lt_of_pos _ (by decide)⟩
            refine ⟨_, rfl, _, _, 3, _, rfl, rfl, SqL.of h5, atI_nat (j := 3) rfl, _, _, rfl, rfl, hm, _, rfl, _, _, rfl, rfl, (by show (0 : Int) < 2147483629; decide), _, _, rfl, rfl, _, _, rfl, rfl, _, _, rfl, rfl, (by show (0 : Int) < 2147483647; decide), _, rfl, p, _, 3, 3, rfl, rfl, h5, rfl, ?_⟩
            exact ⟨_, rfl, ⟨ns, i + 1, c', _, upd_same, by rw [upd_ne npl]; exact b5 _ _ h2 npl, hc', hmod.1, hmod.2⟩, b5.trans but_upd⟩
        · exact ⟨none, rfl, hS, .refl _ _⟩
      · exact ⟨none, rfl, hS, .refl _ _⟩
    · rintro σ' H1 ⟨v2, rfl, hS1, b1⟩
      clear h1 h2 hc hr0 hr1 npl
      obtain ⟨ns, i, c, r, h1, h2, hc, hr0, hr1⟩ := id hS1
      have npl : l ≠ p := hS1.ne
      refine ⟨_, rfl, _, _, 2, _, rfl, rfl, SqL.of h1, atI_nat (j := 2) rfl, _, _, rfl, rfl, hpw, _, _, rfl, rfl, _, rfl, ie (fun c1 => ?_) (fun c1 => ?_)⟩
      · refine ⟨_, rfl, _, _, 2, _, rfl, rfl, SqL.of h1, atI_nat (j := 2) rfl, _, rfl, _, _, rfl, rfl, hL0, ?_⟩
        have hdv : CDivW c L := wide_div hL0 (b := 64) (by omega) (by decide) (by decide)
        refine ⟨_, rfl, _, _, 2, _, rfl, rfl, SqL.of h1, atI_nat (j := 2) rfl, _, rfl, _, _, rfl, rfl, hdv, _, rfl, p, _, 2, 2, rfl, rfl, h1, rfl, ?_⟩
        refine ⟨_, rfl, ?_⟩
        refine q (c % L) _ (Int.emod_nonneg _ (by omega)) (Int.emod_lt_of_pos _ hL0) ⟨ns, i, c / L, r, upd_same, by rw [upd_ne npl]; exact h2, Int.ediv_nonneg hc (by omega), hr0, hr1⟩ (b1.trans but_upd)
      · have hm : CMulW r 39373 := mulok (a := 0) (by omega) (by decide)
        have hmod : 0 ≤ (r * 39373 + 12820163) % 2147483647 ∧ (r * 39373 + 12820163) % 2147483647 < 2147483647 := ⟨Int.emod_nonneg _ (by decide), Int.emod_lt_of_pos _ (by decide)⟩
        refine ⟨_, rfl, _, _, 3, _, rfl, rfl, SqL.of h1, atI_nat (j := 3) rfl, _, _, rfl, rfl, hm, _, _, rfl, rfl, _, _, rfl, rfl, (by show (0 : Int) < 2147483647; decide), _, rfl, p, _, 3, 3, rfl, rfl, h1, rfl, ?_⟩
        generalize e3 : upd H1 p _ = H3
        have b3 : But p H1 H3 := e3 ▸ but_upd
        have h3 : H3 p = some (.lst [.ref l, .int i, .int c, .int ((r * 39373 + 12820163) % 2147483647)]) := e3 ▸ upd_same
        generalize (r * 39373 + 12820163) % 2147483647 = r2 at *
        have hdv : CDivW r2 16 := ⟨by decide, by decide⟩
        refine ⟨_, rfl, _, _, 3, _, rfl, rfl, SqL.of h3, atI_nat (j := 3) rfl, _, _, rfl, rfl, hdv, _, rfl, _, _, rfl, rfl, hL0, ?_⟩
        exact q (r2 / 16 % L) _ (Int.emod_nonneg _ (by omega)) (Int.emod_lt_of_pos _ hL0) ⟨ns, i, c, r2, h3, b3 _ _ h2 npl, hc, hmod.1, hmod.2⟩ (b1.trans b3)

end
end K02
namespace K02
open PySem PySem.Spec PyProof.Rows L2 He TL EL
section
variable {P : Program} {w : World} {K : PySem.W.Frag} {mg : Str → Option Value} {base : Heap}
/-- a drawn text of at most m signs -/
def spTxt (m : Nat) : Sp := fun vs H Q _ => ∃ (p l : Addr), vs = [.ref p] ∧ Src H p l ∧ ∀ (z : Str) (H' : Hp), z.length ≤ m → Src H' p l → But p H H' → Q (.str z) H'
theorem one_len (c : Nat) : (⟨#[c]⟩ : Str).length = 1 := rfl
theorem at_str {z : Str} {n : Int} (h0 : 0 ≤ n) (h1 : n < (tl z).length) : ∃ c, atI z.cps.toList n = some c := by
  obtain ⟨k, rfl⟩ := Int.eq_ofNat_of_zero_le h0
  have hk : k < (tl z).length := by omega
  exact ⟨(tl z)[k], atI_nat (List.getElem?_eq_getElem hk)⟩
/-! _law_letter -/
theorem d_letter (T : Txt K mg) : Dn P w K mg base CX0 2 "_law_letter" (spTxt 1) := by
  obtain ⟨fd, F⟩ := T.f__law_letter
  have D__law_draw := d_draw (P := P) (w := w) (base := base) T
  refine dnN T.g__law_letter F (fun _ _ _ _ _ _ us hl => match us, hl with | [_], _ => rfl) sc__law_letter (fun vs H Q E h => ?_) (fun cdv A outer s H vs Q E hr h => ?_)
  · obtain ⟨p, l, rfl, _⟩ := h
    rfl
  · obtain ⟨p, l, rfl, hS, q⟩ := h
    refine ⟨_, PSs.nox (pss_cons (ps_set (i := 1) sc__law_letter.nd rfl (.inl rfl) pe_str)
      (pss_one (ps_ret (pe_ix ix_str (pv 1) (cl D__law_draw (hr.mono (by decide)) (pa_cons (pv 0) (pa_cons pe_int pa_nil))) (fun _ _ => rfl))))), ?_⟩
    refine ⟨_, rfl, _, rfl, p, l, 15, rfl, by decide, by decide, hS, fun n H1 n0 n1 S1 b1 => ?_⟩
    have hl : (tl ("0123456789-/+. " : Str)).length = 15 := by decide +kernel
    obtain ⟨c, hc⟩ := at_str (z := "0123456789-/+. ") n0 (by rw [hl]; omega)
    exact ⟨_, _, c, rfl, rfl, by rw [len_tl, hl]; decide, hc, q _ _ (Nat.le_of_eq (one_len c)) S1 b1⟩
/-! _law_digits -/
def spDigits : Sp := fun vs H Q _ => ∃ (p l : Addr) (n : Nat), vs = [.ref p, .int n] ∧ n ≤ 100 ∧ Src H p l ∧ ∀ (z : Str) (H' : Hp), z.length ≤ n → Src H' p l → But p H H' → Q (.str z) H'
theorem d_digits (T : Txt K mg) : Dn P w K mg base CX0 2 "_law_digits" spDigits := by
  obtain ⟨fd, F⟩ := T.f__law_digits
  have D__law_draw := d_draw (P := P) (w := w) (base := base) T
  refine dnN T.g__law_digits F (fun _ _ _ _ _ _ us hl => match us, hl with | [_, _], _ => rfl) sc__law_digits (fun vs H Q E h => ?_) (fun cdv A outer s H vs Q E hr h => ?_)
  · obtain ⟨p, l, n, rfl, _⟩ := h
    rfl
  · obtain ⟨p, l, n, rfl, hn, hS, q⟩ := h
    refine ⟨_, PSs.nox (pss_cons (ps_set (i := 2) sc__law_digits.nd rfl (.inl rfl) pe_str)
      (pss_cons (ps_for PassesOwn.never rfl (pi_range1 (by rfl) T.z_range (pa_cons (pv 1) pa_nil)) (pg_name (i := 3) sc__law_digits.nd rfl (.inl rfl))
      (pss_one (ps_set (i := 2) sc__law_digits.nd rfl (.inl rfl) (pe_op op_add_str (pv 2) (pe_ix ix_str pe_str (cl D__law_draw (hr.mono (by decide)) (pa_cons (pv 0) (pa_cons pe_int pa_nil))) (fun _ _ => rfl))))))
      (pss_one (ps_ret (pv 2))))), ?_⟩
    refine ⟨_, rfl, _, rfl, by omega, by omega, for_range (n := n) (fun i σ H' => ∃ (z : Str) (v : Option V), σ = [some (.ref p), some (.int n), some (.str z), v] ∧ z.length ≤ i ∧ Src H' p l ∧ But p H H')
      ⟨"", none, rfl, by decide +kernel, hS, .refl _ _⟩ ?_ ?_⟩
    · rintro i σ H1 hi ⟨z, v, rfl, hz, S1, b1⟩
      refine ⟨_, rfl, _, rfl, p, l, 10, rfl, by decide, by decide, S1, fun k H2 k0 k1 S2 b2 => ?_⟩
      have hl : (tl ("0123456789" : Str)).length = 10 := by decide +kernel
      obtain ⟨c, hc⟩ := at_str (z := "0123456789") k0 (by rw [hl]; omega)
      refine ⟨_, _, c, rfl, rfl, by rw [len_tl, hl]; decide, hc, _, _, rfl, rfl, small40 (by rw [one_len]; omega), ?_⟩
      refine ⟨_, _, rfl, ?_, S2, b1.trans b2⟩
      rw [len_tl, tl_append, List.length_append, ← len_tl]
      show _ + 1 ≤ _
      omega
    · rintro σ H1 ⟨z, v, rfl, hz, S1, b1⟩
      exact ⟨_, rfl, q z H1 hz S1 b1⟩
/-! _law_plain -/
theorem ch2 {z : Str} (k : Int) (k0 : 0 ≤ k) (k1 : k < 2) : ∃ z : Str, z.length ≤ 1 ∧ atI ([.str "", .str "-"] : List V) k = some (.str z) := by
  obtain ⟨n, rfl⟩ := Int.eq_ofNat_of_zero_le k0
  match n, k1 with
  | 0, _ => exact ⟨"", by decide +kernel, atI_nat (j := 0) rfl⟩
  | 1, _ => exact ⟨"-", by decide +kernel, atI_nat (j := 1) rfl⟩
  | n + 2, h => omega
theorem app_len (x y : Str) : (x ++ y).length = x.length + y.length := by
  rw [len_tl, tl_append, List.length_append, ← len_tl, ← len_tl]
theorem d_plain (T : Txt K mg) : Dn P w K mg base CX0 3 "_law_plain" (spTxt 90) := by
  obtain ⟨fd, F⟩ := T.f__law_plain
  have D__law_draw := d_draw (P := P) (w := w) (base := base) T
  have D__law_digits := d_digits (P := P) (w := w) (base := base) T
  refine dnN T.g__law_plain F (fun _ _ _ _ _ _ us hl => match us, hl with | [_], _ => rfl) sc__law_plain (fun vs H Q E h => ?_) (fun cdv A outer s H vs Q E hr h => ?_)
  · obtain ⟨p, l, rfl, _⟩ := h
    rfl
  · obtain ⟨p, l, rfl, hS, q⟩ := h
    refine ⟨_, PSs.nox (pss_cons (ps_set (i := 1) sc__law_plain.nd rfl (.inl rfl) (pe_op op_add pe_int (cl D__law_draw (hr.mono (by decide)) (pa_cons (pv 0) (pa_cons pe_int pa_nil)))))
      (pss_mid (ps_if (pt_cmpR op_eq (cl D__law_draw (hr.mono (by decide)) (pa_cons (pv 0) (pa_cons pe_int pa_nil))) pe_int (nomark _)) (pss_one (ps_set (i := 1) sc__law_plain.nd rfl (.inl rfl) (pe_op op_add pe_int (cl D__law_draw (hr.mono (by decide)) (pa_cons (pv 0) (pa_cons pe_int pa_nil)))))) pss_nil)
      (pss_cons (ps_set (i := 2) sc__law_plain.nd rfl (.inl rfl) (pe_op op_add_str (pe_ix ix_list (pe_lst (pa_cons pe_str (pa_cons pe_str pa_nil))) (cl D__law_draw (hr.mono (by decide)) (pa_cons (pv 0) (pa_cons pe_int pa_nil))) (fun _ _ => rfl)) (cl D__law_digits (hr.mono (by decide)) (pa_cons (pv 0) (pa_cons (pv 1) pa_nil)))))
      (pss_mid (ps_if (pt_cmpR op_eq (cl D__law_draw (hr.mono (by decide)) (pa_cons (pv 0) (pa_cons pe_int pa_nil))) pe_int (nomark _)) (pss_cons (ps_set (i := 1) sc__law_plain.nd rfl (.inl rfl) (pe_op op_add pe_int (cl D__law_draw (hr.mono (by decide)) (pa_cons (pv 0) (pa_cons pe_int pa_nil)))))
      (pss_mid (ps_if (pt_cmpR op_eq (cl D__law_draw (hr.mono (by decide)) (pa_cons (pv 0) (pa_cons pe_int pa_nil))) pe_int (nomark _)) (pss_one (ps_set (i := 1) sc__law_plain.nd rfl (.inl rfl) (pe_op op_add pe_int (cl D__law_draw (hr.mono (by decide)) (pa_cons (pv 0) (pa_cons pe_int pa_nil)))))) pss_nil)
      (pss_one (ps_set (i := 2) sc__law_plain.nd rfl (.inl rfl) (pe_op op_add_str (pe_op op_add_str (pv 2) pe_str) (cl D__law_digits (hr.mono (by decide)) (pa_cons (pv 0) (pa_cons (pv 1) pa_nil)))))))) pss_nil)
      (pss_one (ps_ret (pv 2))))))), ?_⟩
    refine ⟨_, rfl, p, l, 3, rfl, by decide, by decide, hS, fun c0 H1 c00 c01 S1 b1 => ⟨_, _, rfl, rfl, ?_⟩⟩
    refine ⟨fun σ' H' => ∃ n : Nat, n ≤ 43 ∧ σ' = [some (.ref p), some (.int n), none] ∧ Src H' p l ∧ But p H H', ?_, ?_⟩
    · refine ⟨_, rfl, p, l, 4, rfl, by decide, by decide, S1, fun k H2 k0 k1 S2 b2 => ⟨rfl, _, rfl, ie (fun _ => ?_) (fun _ => ?_)⟩⟩
      · refine ⟨_, rfl, p, l, 5, rfl, by decide, by decide, S2, fun m H3 m0 m1 S3 b3 => ⟨_, _, rfl, rfl, ?_⟩⟩
        refine ⟨(39 + m).toNat, by omega, ?_, S3, b1.trans (b2.trans b3)⟩
        rw [Int.toNat_of_nonneg (by omega)]
        rfl
      · refine ⟨(1 + c0).toNat, by omega, ?_, S2, b1.trans b2⟩
        rw [Int.toNat_of_nonneg (by omega)]
        rfl
    · rintro σ' H2 ⟨n, hn, rfl, S2, b2⟩
      refine ⟨(by show 2 ≤ sizeLine; decide), fun x nx => ?_⟩
      generalize eH3 : upd H2 x _ = H3
      have s3 : Same H2 H3 := eH3 ▸ same_upd nx
      have h3 : H3 x = some _ := eH3 ▸ upd_same
      refine ⟨_, rfl, p, l, 2, rfl, by decide, by decide, S2.same s3, fun k H4 k0 k1 S4 b4 => ?_⟩
      obtain ⟨z0, hz0, ez0⟩ := ch2 (z := "") k k0 k1
      have nxp : x ≠ p := fun e => by
        obtain ⟨xs, hx⟩ := S2.lst
        rw [e, hx] at nx
        cases nx
      refine ⟨_, _, _, _, rfl, rfl, SqL.of (b4 _ _ h3 nxp), ez0, ?_⟩
      refine ⟨_, rfl, _, rfl, p, l, n, rfl, by omega, S4, fun z1 H5 hz1 S5 b5 => ?_⟩
      refine ⟨_, _, rfl, rfl, small40 (by omega), ?_⟩
      have hz2 : (z0 ++ z1).length ≤ 44 := by rw [app_len]; omega
      generalize z0 ++ z1 = z2 at *
      have bb : But p H H5 := b2.trans ((But.of s3).trans (b4.trans b5))
      refine ⟨fun σ' H' => ∃ (z : Str) (v : Option V), z.length ≤ 90 ∧ σ' = [some (.ref p), v, some (.str z)] ∧ Src H' p l ∧ But p H H', ?_, ?_⟩
      · refine ⟨_, rfl, p, l, 2, rfl, by decide, by decide, S5, fun k2 H6 _ _ S6 b6 => ⟨rfl, _, rfl, ie (fun _ => ?_) (fun _ => ?_)⟩⟩
        · refine ⟨_, rfl, p, l, 2, rfl, by decide, by decide, S6, fun c1 H7 c10 c11 S7 b7 => ⟨_, _, rfl, rfl, ?_⟩⟩
          refine ⟨fun σ' H' => ∃ n : Nat, n ≤ 43 ∧ σ' = [some (.ref p), some (.int n), some (.str z2)] ∧ Src H' p l ∧ But p H H', ?_, ?_⟩
          · refine ⟨_, rfl, p, l, 4, rfl, by decide, by decide, S7, fun k H8 k0 k1 S8 b8 => ⟨rfl, _, rfl, ie (fun _ => ?_) (fun _ => ?_)⟩⟩
            · refine ⟨_, rfl, p, l, 5, rfl, by decide, by decide, S8, fun m H9 m0 m1 S9 b9 => ⟨_, _, rfl, rfl, ?_⟩⟩
              refine ⟨(39 + m).toNat, by omega, ?_, S9, bb.trans (b6.trans (b7.trans (b8.trans b9)))⟩
              rw [Int.toNat_of_nonneg (by omega)]
              rfl
            · refine ⟨(1 + c1).toNat, by omega, ?_, S8, bb.trans (b6.trans (b7.trans b8))⟩
              rw [Int.toNat_of_nonneg (by omega)]
              rfl
          · rintro σ' H8 ⟨n2, hn2, rfl, S8, b8⟩
            refine ⟨_, rfl, _, _, rfl, rfl, small40 (show _ + 1 ≤ 100000 by omega), ?_⟩
            refine ⟨_, rfl, _, rfl, p, l, n2, rfl, by omega, S8, fun z3 H9 hz3 S9 b9 => ?_⟩
            have hz4 : (z2 ++ ("/" : Str)).length ≤ 45 := by
              rw [app_len]
              show _ + 1 ≤ _
              omega
            refine ⟨_, _, rfl, rfl, small40 (by omega), ?_⟩
            exact ⟨_, _, by rw [app_len]; omega, rfl, S9, b8.trans b9⟩
        · exact ⟨_, _, by omega, rfl, S6, bb.trans b6⟩
      · rintro σ' H6 ⟨z, v, hz, rfl, S6, b6⟩
        exact ⟨_, rfl, q z H6 hz S6 b6⟩
/-! _law_bent -/
def spBent : Sp := fun vs H Q _ => ∃ (p l : Addr) (z : Str), vs = [.ref p, .str z] ∧ z.length ≤ 90 ∧ Src H p l ∧ ∀ (y : Str) (H' : Hp), y.length ≤ 200 → Src H' p l → But p H H' → Q (.str y) H'
theorem d_bent (T : Txt K mg) : Dn P w K mg base CX0 3 "_law_bent" spBent := by
  obtain ⟨fd, F⟩ := T.f__law_bent
  have D__law_draw := d_draw (P := P) (w := w) (base := base) T
  have D__law_letter := d_letter (P := P) (w := w) (base := base) T
  refine dnN T.g__law_bent F (fun _ _ _ _ _ _ us hl => match us, hl with | [_, _], _ => rfl) sc__law_bent (fun vs H Q E h => ?_) (fun cdv A outer s H vs Q E hr h => ?_)
  · obtain ⟨p, l, z, rfl, _⟩ := h
    rfl
  · obtain ⟨p, l, z, rfl, hz, hS, q⟩ := h
    have hz' : z.length ≤ sizeLine := small40 (by omega)
    refine ⟨_, PSs.nox (pss_cons (ps_set (i := 2) sc__law_bent.nd rfl (.inl rfl) (cl D__law_draw (hr.mono (by decide)) (pa_cons (pv 0) (pa_cons pe_int pa_nil))))
      (pss_cons (ps_set (i := 3) sc__law_bent.nd rfl (.inl rfl) (pe_op op_mod (cl D__law_draw (hr.mono (by decide)) (pa_cons (pv 0) (pa_cons pe_int pa_nil))) (pe_op op_add (pe_callB call_len_str (by rfl) T.z_len (by decide +kernel) (pa_cons (pv 1) pa_nil)) pe_int)))
      (pss_cons (ps_if (pt_cmpR op_eq (pv 2) pe_int (nomark _)) (pss_one (ps_ret (pe_op op_add_str (pe_slice sl_str (pv 1) po_none (po_some (pv 3))) (pe_slice sl_str (pv 1) (po_some (pe_op op_add (pv 3) pe_int)) po_none)))) pss_nil)
      (pss_cons (ps_if (pt_cmpR op_eq (pv 2) pe_int (nomark _)) (pss_one (ps_ret (pe_op op_add_str (pe_op op_add_str (pe_slice sl_str (pv 1) po_none (po_some (pv 3))) (cl D__law_letter (hr.mono (by decide)) (pa_cons (pv 0) pa_nil))) (pe_slice sl_str (pv 1) (po_some (pv 3)) po_none)))) pss_nil)
      (pss_cons (ps_if (pt_cmpR op_eq (pv 2) pe_int (nomark _)) (pss_one (ps_ret (pe_op op_add_str (pe_op op_add_str (pe_slice sl_str (pv 1) po_none (po_some (pv 3))) (cl D__law_letter (hr.mono (by decide)) (pa_cons (pv 0) pa_nil))) (pe_slice sl_str (pv 1) (po_some (pe_op op_add (pv 3) pe_int)) po_none)))) pss_nil)
      (pss_one (ps_ret (pv 1)))))))), ?_⟩
    refine ⟨_, rfl, p, l, 4, rfl, by decide, by decide, hS, fun k H1 k0 k1 S1 b1 => ?_⟩
    refine ⟨_, rfl, p, l, 90, rfl, by decide, by decide, S1, fun n H2 n0 n1 S2 b2 => ⟨_, rfl, _, rfl, hz', _, _, rfl, rfl, _, _, rfl, rfl, (by show (0 : Int) < (z.length : Int) + 1; omega), ?_⟩⟩
    have cl := cutS_length z
    have bb := b1.trans b2
    refine ⟨_, rfl, rfl, _, rfl, ie (fun _ => ?_) (fun _ => ?_)⟩
    · refine ⟨_, rfl, _, rfl, _, rfl, _, rfl, hz', _, rfl, _, rfl, _, _, rfl, rfl, _, rfl, _, rfl, hz', _, _, rfl, rfl, small40 (Nat.le_trans (Nat.add_le_add (cl _ _) (cl _ _)) (by omega)), q _ _ ?_ S2 bb⟩
      rw [app_len]
      exact Nat.le_trans (Nat.add_le_add (cl _ _) (cl _ _)) (by omega)
    · refine ⟨_, rfl, rfl, _, rfl, ie (fun _ => ?_) (fun _ => ?_)⟩
      · refine ⟨_, rfl, _, rfl, _, rfl, _, rfl, hz', _, rfl, p, l, rfl, S2, fun y H3 hy S3 b3 => ?_⟩
        refine ⟨_, _, rfl, rfl, small40 (Nat.le_trans (Nat.add_le_add (cl _ _) hy) (by omega)), ?_⟩
        have h2 : (cutS z none (some (n % ((z.length : Int) + 1))) ++ y).length ≤ 91 := by
          rw [app_len]
          exact Nat.le_trans (Nat.add_le_add (cl _ _) hy) (by omega)
        refine ⟨_, rfl, _, rfl, _, rfl, _, rfl, hz', _, _, rfl, rfl, small40 (Nat.le_trans (Nat.add_le_add h2 (cl _ _)) (by omega)), q _ _ ?_ S3 (bb.trans b3)⟩
        rw [app_len]
        exact Nat.le_trans (Nat.add_le_add h2 (cl _ _)) (by omega)
      · refine ⟨_, rfl, rfl, _, rfl, ie (fun _ => ?_) (fun _ => ?_)⟩
        · refine ⟨_, rfl, _, rfl, _, rfl, _, rfl, hz', _, rfl, p, l, rfl, S2, fun y H3 hy S3 b3 => ?_⟩
          refine ⟨_, _, rfl, rfl, small40 (Nat.le_trans (Nat.add_le_add (cl _ _) hy) (by omega)), ?_⟩
          have h2 : (cutS z none (some (n % ((z.length : Int) + 1))) ++ y).length ≤ 91 := by
            rw [app_len]
            exact Nat.le_trans (Nat.add_le_add (cl _ _) hy) (by omega)
          refine ⟨_, rfl, _, rfl, _, _, rfl, rfl, _, rfl, _, rfl, hz', _, _, rfl, rfl, small40 (Nat.le_trans (Nat.add_le_add h2 (cl _ _)) (by omega)), q _ _ ?_ S3 (bb.trans b3)⟩
          rw [app_len]
          exact Nat.le_trans (Nat.add_le_add h2 (cl _ _)) (by omega)
        · exact ⟨_, rfl, q _ _ (by omega) S2 bb⟩
/-! _law_text -/
theorem d_text (T : Txt K mg) : Dn P w K mg base CX0 4 "_law_text" (spTxt 200) := by
  obtain ⟨fd, F⟩ := T.f__law_text
  have D__law_draw := d_draw (P := P) (w := w) (base := base) T
  have D__law_letter := d_letter (P := P) (w := w) (base := base) T
  have D__law_plain := d_plain (P := P) (w := w) (base := base) T
  have D__law_bent := d_bent (P := P) (w := w) (base := base) T
  refine dnN T.g__law_text F (fun _ _ _ _ _ _ us hl => match us, hl with | [_], _ => rfl) sc__law_text (fun vs H Q E h => ?_) (fun cdv A outer s H vs Q E hr h => ?_)
  · obtain ⟨p, l, rfl, _⟩ := h
    rfl
  · obtain ⟨p, l, rfl, hS, q⟩ := h
    refine ⟨_, PSs.nox (pss_cons (ps_if (pt_cmpR op_eq (cl D__law_draw (hr.mono (by decide)) (pa_cons (pv 0) (pa_cons pe_int pa_nil))) pe_int (nomark _)) (pss_cons (ps_set (i := 1) sc__law_text.nd rfl (.inl rfl) pe_str)
      (pss_cons (ps_for PassesOwn.never rfl (pi_range1 (by rfl) T.z_range (pa_cons (cl D__law_draw (hr.mono (by decide)) (pa_cons (pv 0) (pa_cons pe_int pa_nil))) pa_nil)) (pg_name (i := 2) sc__law_text.nd rfl (.inl rfl))
      (pss_one (ps_set (i := 1) sc__law_text.nd rfl (.inl rfl) (pe_op op_add_str (pv 1) (cl D__law_letter (hr.mono (by decide)) (pa_cons (pv 0) pa_nil))))))
      (pss_one (ps_ret (pv 1))))) pss_nil)
      (pss_one (ps_ret (cl D__law_bent (hr.mono (by decide)) (pa_cons (pv 0) (pa_cons (cl D__law_plain (hr.mono (by decide)) (pa_cons (pv 0) pa_nil)) pa_nil)))))), ?_⟩
    refine ⟨_, rfl, p, l, 3, rfl, by decide, by decide, hS, fun k H1 k0 k1 S1 b1 => ⟨rfl, _, rfl, ie (fun _ => ?_) (fun _ => ?_)⟩⟩
    · refine ⟨_, rfl, p, l, 7, rfl, by decide, by decide, S1, fun n H2 n0 n1 S2 b2 => ?_⟩
      refine ⟨_, rfl, by omega, by omega, for_range (n := n.toNat) (fun i σ H' => ∃ (z : Str) (v : Option V), σ = [some (.ref p), some (.str z), v] ∧ z.length ≤ i ∧ Src H' p l ∧ But p H H')
        ⟨"", none, rfl, by decide +kernel, S2, b1.trans b2⟩ ?_ ?_⟩
      · rintro i σ H3 hi ⟨z, v, rfl, hz, S3, b3⟩
        refine ⟨_, rfl, _, rfl, p, l, rfl, S3, fun y H4 hy S4 b4 => ?_⟩
        exact ⟨_, _, rfl, rfl, small40 (by omega), _, _, rfl, by rw [app_len]; omega, S4, b3.trans b4⟩
      · rintro σ H3 ⟨z, v, rfl, hz, S3, b3⟩
        exact ⟨_, rfl, q z H3 (by omega) S3 b3⟩
    · refine ⟨_, rfl, _, rfl, p, l, rfl, S1, fun z H2 hz S2 b2 => ?_⟩
      exact ⟨p, l, z, rfl, hz, S2, fun y H3 hy S3 b3 => q y H3 hy S3 (b1.trans (b2.trans b3))⟩
end
end K02
namespace K02
open PySem PySem.Spec PyProof.Rows L2 He TL EL
section
variable {P : Program} {w : World} {K : PySem.W.Frag} {mg : Str → Option Value} {base : Heap}
/-! _law_number -/
def lnum (cs : List Nat) : Int := match rdD cs with
  | none => -1
  | some n => n
def spNum : Sp := fun vs H Q _ => ∃ z : Str, vs = [.str z] ∧ z.length ≤ 100000 ∧ Q (.int (lnum (tl z))) H
theorem d_num (T : Txt K mg) : Dn P w K mg base CX0 1 "_law_number" spNum := by
  obtain ⟨fd, F⟩ := T.f__law_number
  refine dnN T.g__law_number F (fun _ _ _ _ _ _ us hl => match us, hl with | [_], _ => rfl) sc__law_number (fun vs H Q E h => ?_) (fun cdv A outer s H vs Q E hr h => ?_)
  · obtain ⟨z, rfl, _⟩ := h
    rfl
  · obtain ⟨z, rfl, hz, q⟩ := h
    have hz' : z.length ≤ sizeLine := small40 hz
    refine ⟨_, PSs.nox (pss_cons (ps_if (PW.pt (pw_or (pt_cmpR op_eq (pv 0) pe_str (nomark _)) (pw_or1 (pt_cmpR op_gt (pe_callB call_len_str (by rfl) T.z_len (by decide +kernel) (pa_cons (pv 0) pa_nil)) pe_int (nomark _))))) (pss_one (ps_ret (pe_un un_neg pe_int))) pss_nil)
      (pss_cons (ps_for PassesOwn.never rfl (pi_str (pv 0)) (pg_name (i := 1) sc__law_number.nd rfl (.inl rfl))
      (pss_one (ps_if (pt_cmpR op_notIn_sign (pv 1) pe_str (by rfl)) (pss_one (ps_ret (pe_un un_neg pe_int))) pss_nil)))
      (pss_cons (ps_if (PW.pt (pw_and (pt_cmpR op_gt (pe_callB call_len_str (by rfl) T.z_len (by decide +kernel) (pa_cons (pv 0) pa_nil)) pe_int (nomark _)) (pw_and1 (pt_cmpR op_eq (pe_ix ix_str (pv 0) pe_int (fun _ _ => rfl)) pe_str (nomark _))))) (pss_one (ps_ret (pe_un un_neg pe_int))) pss_nil)
      (pss_one (ps_ret (pe_callTy call_int_str (by rfl) T.z_int (by decide +kernel) (pa_cons (pv 0) pa_nil))))))), ?_⟩
    have hlt := len_tl z
    have bad : rdD (tl z) = none → Q (.int (-1)) H := fun e => by
      unfold lnum at q
      rw [e] at q
      exact q
    have e0 : decide (V.str z = V.str "") = decide (tl z = []) := by rw [str_eq_tl]; rfl
    refine ⟨_, rfl, rfl, _, rfl, ie (fun c => ?_) (fun c => ?_)⟩
    · rw [e0] at c
      have c := of_decide_eq_true c
      refine ⟨_, rfl, bad ?_⟩
      rw [c]
      rfl
    · rw [e0] at c
      have c := of_decide_eq_false c
      have hl1 : 1 ≤ (tl z).length := by
        cases hc : tl z with
        | nil => exact absurd hc c
        | cons x r => simp
      refine ⟨_, rfl, _, rfl, hz', _, _, rfl, rfl, _, rfl, ie (fun c2 => ?_) (fun c2 => ?_)⟩
      · have c2 := of_decide_eq_true c2
        refine ⟨_, rfl, bad ?_⟩
        unfold rdD
        exact if_neg fun h => by omega
      · have c2 := of_decide_eq_false c2
        have hl : 1 ≤ (tl z).length ∧ (tl z).length ≤ 40 := ⟨hl1, by omega⟩
        refine ⟨_, rfl, _, rfl, for_it walk_str (fun i σ H' => ∃ v, σ = [some (.str z), v] ∧ H' = H ∧ ((tl z).take i).all isDig = true) ⟨none, rfl, rfl, rfl⟩ (fun _ _ _ _ _ => trivial) ?_ ?_⟩
        · rintro i x σ H1 H2 hi ⟨v, rfl, rfl, ha⟩ ⟨rfl, c, hc, rfl⟩
          have hc' : (tl z)[i]? = some c := by rw [← hc]; simp
          refine ⟨_, rfl, _, _, rfl, rfl, _, rfl, ?_⟩
          rw [mem_digits]
          cases hd : isDig c with
          | true =>
            refine iteF ⟨_, rfl, rfl, ?_⟩
            rw [List.take_add_one, hc', List.all_append, ha]
            simp [hd]
          | false =>
            refine iteT ⟨_, rfl, bad ?_⟩
            unfold rdD
            refine if_neg fun h => ?_
            have := List.all_eq_true.mp h.2.1 c (List.mem_of_getElem? hc')
            rw [hd] at this
            cases this
        · rintro σ H1 ⟨v, rfl, rfl, ha⟩
          have ha' : (tl z).all isDig = true := by
            have e : z.cps.size = (tl z).length := by simp
            rw [e, List.take_length] at ha
            exact ha
          have hh : (tl z)[0]? = some ((tl z)[0]'(by omega)) := List.getElem?_eq_getElem (by omega)
          have fin : ¬ (1 < (tl z).length ∧ (tl z).head? = some 48) → ∃ (a : Str) (n : Int), [V.str z] = [V.str a] ∧ PySem.intText? a = some n ∧ a.length ≤ 640 ∧ Q (.int n) H1 := fun hn => by
            have e : rdD (tl z) = some (NumText.digitsVal (tl z)) := by
              unfold rdD
              exact if_pos ⟨hl, ha', hn⟩
            unfold lnum at q
            rw [e] at q
            exact ⟨z, _, rfl, PySem.intText_digits (allDigits_of ha') (fun e => c e) (by omega), by omega, q⟩
          refine ⟨_, rfl, _, rfl, hz', _, _, rfl, rfl, _, rfl, ie (fun c => ?_) (fun c => ?_)⟩
          · have c1 := of_decide_eq_true c
            refine ⟨_, rfl, z, 0, _, rfl, rfl, hz', atI_nat (j := 0) hh, rfl, _, rfl, ?_⟩
            rw [str_one (d := 48) (by decide +kernel)]
            refine ie (fun c2 => ?_) (fun c2 => ?_)
            · have c2 := of_decide_eq_true c2
              refine ⟨_, rfl, bad ?_⟩
              unfold rdD
              refine if_neg fun h => h.2.2 ⟨by omega, ?_⟩
              rw [List.head?_eq_getElem?, hh, c2]
            · have c2 := of_decide_eq_false c2
              refine ⟨_, rfl, fin fun h => c2 ?_⟩
              rw [List.head?_eq_getElem?, hh] at h
              exact Option.some.inj h.2
          · have c1 := of_decide_eq_false c
            exact ⟨_, rfl, fin fun h => c1 (by omega)⟩
/-! _law_due -/
def spDue : Sp := fun vs H Q _ => ∃ z : Str, vs = [.str z] ∧ z.length ≤ 1000 ∧ (rdV (tl z) = none → ∀ H', Same H H' → Q .non H') ∧ ∀ a b : Int, rdV (tl z) = some (a, b) → ∀ p H', Same H H' → H' p = some (.tup [.int a, .int b]) → Q (.ref p) H'
theorem rdP_len (cs : List Nat) : (rdP cs).1.length ≤ cs.length ∧ ∀ u, (rdP cs).2 = some u → u.length ≤ cs.length := by
  unfold rdP
  cases hp : par [47] [] cs with
  | none => exact ⟨Nat.le_refl _, fun u e => by cases e⟩
  | some ab =>
    obtain ⟨a, b⟩ := ab
    have e := congrArg List.length (par_split _ _ _ _ hp)
    rw [List.nil_append, List.length_append, List.length_cons] at e
    refine ⟨by show a.length ≤ _; omega, fun u eu => ?_⟩
    have : b = u := Option.some.inj eu
    rw [← this]
    omega
theorem ys_one {ys : List Str} {a : List Nat} (h : ys.map tl = [a]) : ∃ y, ys = [y] ∧ tl y = a := by
  match ys, h with
  | [y], h => exact ⟨y, rfl, by injection h⟩
theorem ys_two {ys : List Str} {a b : List Nat} (h : ys.map tl = [a, b]) : ∃ y x, ys = [y, x] ∧ tl y = a ∧ tl x = b := by
  match ys, h with
  | [y, x], h =>
    injection h with h1 h2
    injection h2 with h2
    exact ⟨y, x, rfl, h1, h2⟩
theorem d_due (T : Txt K mg) : Dn P w K mg base CX0 2 "_law_due" spDue := by
  obtain ⟨fd, F⟩ := T.f__law_due
  have D__law_number := d_num (P := P) (w := w) (base := base) T
  refine dnN T.g__law_due F (fun _ _ _ _ _ _ us hl => match us, hl with | [_], _ => rfl) sc__law_due (fun vs H Q E h => ?_) (fun cdv A outer s H vs Q E hr h => ?_)
  · obtain ⟨z, rfl, _⟩ := h
    rfl
  · obtain ⟨z, rfl, hz, hN, hQ⟩ := h
    have hz' : z.length ≤ sizeLine := small40 (by omega)
    have hbel : decide (V.str (cutS z none (some 1)) = V.str "-") = decide ((tl z).take 1 = [45]) := by
      rw [str_eq_tl, show tl (cutS z none (some 1)) = (tl z).take 1 from tl_cut_to z 1, show tl ("-" : Str) = [45] by decide +kernel]
    refine ⟨_, PSs.nox (pss_cons (ps_set (i := 1) sc__law_due.nd rfl (.inl rfl) (pv 0))
      (pss_mid (ps_if (pt_cmpR op_eq (pe_slice sl_str (pv 0) po_none (po_some pe_int)) pe_str (nomark _)) (pss_one (ps_set (i := 1) sc__law_due.nd rfl (.inl rfl) (pe_slice sl_str (pv 0) (po_some pe_int) po_none))) pss_nil)
      (pss_cons (ps_set (i := 2) sc__law_due.nd rfl (.inl rfl) (pe_split (pv 1) pe_str))
      (pss_cons (ps_if (pt_cmpR op_gt (pe_callB call_len_seq (by rfl) T.z_len (by decide +kernel) (pa_cons (pv 2) pa_nil)) pe_int (nomark _)) (pss_one (ps_ret pe_non)) pss_nil)
      (pss_cons (ps_set (i := 3) sc__law_due.nd rfl (.inl rfl) (cl D__law_number (hr.mono (by decide)) (pa_cons (pe_ix ix_list (pv 2) pe_int (fun _ _ => rfl)) pa_nil)))
      (pss_cons (ps_set (i := 4) sc__law_due.nd rfl (.inl rfl) pe_int)
      (pss_mid (ps_if (pt_cmpR op_eq (pe_callB call_len_seq (by rfl) T.z_len (by decide +kernel) (pa_cons (pv 2) pa_nil)) pe_int (nomark _)) (pss_cons (ps_set (i := 4) sc__law_due.nd rfl (.inl rfl) (cl D__law_number (hr.mono (by decide)) (pa_cons (pe_ix ix_list (pv 2) pe_int (fun _ _ => rfl)) pa_nil)))
      (pss_one (ps_if (pt_cmpR op_lt (pv 4) pe_int (nomark _)) (pss_one (ps_ret pe_non)) pss_nil))) pss_nil)
      (pss_mid (ps_if (PW.pt (pw_or (pt_cmpR op_lt (pv 3) pe_int (nomark _)) (pw_or1 (PW.pt (pw_and (pt_cmpR op_eq (pv 3) pe_int (nomark _)) (pw_and1 (pt_cmpR op_eq (pe_slice sl_str (pv 0) po_none (po_some pe_int)) pe_str (nomark _)))))))) (pss_one (ps_ret pe_non)) pss_nil)
      (pss_cons (ps_set (i := 5) sc__law_due.nd rfl (.inl rfl) (pv 3))
      (pss_cons (ps_set (i := 6) sc__law_due.nd rfl (.inl rfl) (pv 4))
      (pss_mid (ps_while PassesOwn.never (pt_cmpR op_gt (pv 6) pe_int (nomark _))
      (pss_cons (ps_set (i := 7) sc__law_due.nd rfl (.inl rfl) (pe_op op_mod (pv 5) (pv 6)))
      (pss_cons (ps_set (i := 5) sc__law_due.nd rfl (.inl rfl) (pv 6))
      (pss_one (ps_set (i := 6) sc__law_due.nd rfl (.inl rfl) (pv 7))))))
      (pss_cons (ps_if (pt_cmpR op_ne (pv 5) pe_int (nomark _)) (pss_one (ps_ret pe_non)) pss_nil)
      (pss_cons (ps_if (pt_cmpR op_eq (pe_slice sl_str (pv 0) po_none (po_some pe_int)) pe_str (nomark _)) (pss_one (ps_ret (pe_tup (pa_cons (pe_un un_neg (pv 3)) (pa_cons (pv 4) pa_nil))))) pss_nil)
      (pss_one (ps_ret (pe_tup (pa_cons (pv 3) (pa_cons (pv 4) pa_nil)))))))))))))))))), ?_⟩
    -- the body
    refine ⟨_, rfl, ?_⟩
    refine ⟨fun σ' H' => H' = H ∧ ∃ bd : Str, bd.length ≤ 1000 ∧ tl bd = (if decide ((tl z).take 1 = [45]) = true then (tl z).drop 1 else tl z) ∧ σ' = [some (.str z), some (.str bd), none, none, none, none, none, none], ?_, ?_⟩
    · refine ⟨_, rfl, _, rfl, _, rfl, hz', rfl, _, rfl, ie (fun c => ?_) (fun c => ?_)⟩ <;> rw [hbel] at c
      · refine ⟨_, rfl, _, rfl, _, rfl, hz', rfl, _, Nat.le_trans (cutS_length _ _ _) hz, ?_, rfl⟩
        rw [c, if_pos rfl]
        exact tl_cut_from z 1
      · refine ⟨rfl, z, hz, ?_, rfl⟩
        rw [c, if_neg Bool.false_ne_true]
    · rintro σ' H' ⟨rfl, bd, hbl, hbd, rfl⟩
      have key : rdV (tl z) = rdF (decide ((tl z).take 1 = [45])) (rdB (rdP (tl bd)).2) (rdD (rdP (tl bd)).1) := by
        unfold rdV
        rw [hbd]
      generalize hbe : decide ((tl z).take 1 = [45]) = below at *
      have hsp := split_spl bd "/" (by decide +kernel) (kind_ok (by decide +kernel))
      rw [show tl ("/" : Str) = [47] by decide +kernel, spl_par] at hsp
      -- parts
      refine ⟨_, rfl, ⟨_, rfl⟩, bd, "/", rfl, rfl, (by decide +kernel), small40 (by omega), fun l nl => ?_⟩
      generalize Txt.split bd "/" = ys at *
      generalize eH1 : upd H' l _ = H1
      have s1 : Same H' H1 := eH1 ▸ same_upd nl
      have h1 : H1 l = some _ := eH1 ▸ upd_same
      refine ⟨_, rfl, _, _, rfl, .inl (SqL.of h1), _, _, rfl, rfl, _, rfl, ?_⟩
      rw [List.length_map]
      have hlen : ys.length = (ys.map tl).length := by rw [List.length_map]
      -- three ways
      suffices hh : (2 < ys.length ∧ rdV (tl z) = none) ∨ ∃ (y : Str) (u : Option Str), ys = y :: u.toList ∧ tl y = (rdP (tl bd)).1 ∧ (rdP (tl bd)).2 = u.map tl by
        rcases hh with ⟨h2, hn⟩ | ⟨y, u, rfl, ey, eu⟩
        · exact if_pos_of (decide_eq_true (by omega)) (hN hn H1 s1)
        · have hl2 : (y :: u.toList).length ≤ 2 := by cases u <;> simp
          refine if_neg_of (decide_eq_false (by omega)) ?_
          have hy : y.length ≤ 100000 := by
            rw [len_tl, ey]
            have := (rdP_len (tl bd)).1
            rw [len_tl] at hbl
            omega
          refine ⟨_, rfl, _, _, 0, _, rfl, rfl, SqL.of h1, atI_nat (j := 0) rfl, y, rfl, hy, ?_⟩
          rw [ey]
          refine ⟨fun σ' H' => H' = H1 ∧ ∃ b : Nat, rdB (rdP (tl bd)).2 = some b ∧ σ' = [some (.str z), some (.str bd), some (.ref l), some (.int (lnum (rdP (tl bd)).1)), some (.int b), none, none, none], ?_, ?_⟩
          · refine ⟨_, rfl, _, _, rfl, .inl (SqL.of h1), rfl, _, rfl, ?_⟩
            cases hu : u with
            | none =>
              rw [hu] at eu
              refine if_neg_of (by rfl) ⟨rfl, 1, ?_, rfl⟩
              rw [eu]
              rfl
            | some x =>
              rw [hu] at eu h1
              refine if_pos_of (by rfl) ?_
              have hx : x.length ≤ 100000 := by
                have := (rdP_len (tl bd)).2 (tl x) eu
                rw [len_tl]
                rw [len_tl] at hbl
                omega
              refine ⟨_, rfl, _, _, 1, _, rfl, rfl, SqL.of h1, atI_nat (j := 1) rfl, x, rfl, hx, ?_⟩
              rw [eu] at key ⊢
              refine ⟨_, rfl, _, _, rfl, rfl, _, rfl, ?_⟩
              cases hd : rdD (tl x) with
              | none =>
                have e4 : rdB (Option.map tl (some x)) = none := by simp only [Option.map_some, rdB, hd]
                rw [e4] at key
                have e5 : lnum (tl x) = -1 := by unfold lnum; rw [hd]
                exact if_pos_of (decide_eq_true (by rw [e5]; decide)) (hN key H1 s1)
              | some n =>
                have e4 : rdB (Option.map tl (some x)) = if 2 ≤ n then some n else none := by simp only [Option.map_some, rdB, hd]
                have e5 : lnum (tl x) = n := by unfold lnum; rw [hd]
                rw [e4] at key
                refine ie (fun c => ?_) (fun c => ?_)
                · have c := of_decide_eq_true c
                  rw [if_neg (by omega)] at key
                  exact hN key H1 s1
                · have c := of_decide_eq_false c
                  refine ⟨rfl, n, ?_, ?_⟩
                  · rw [e4, if_pos (by omega)]
                  · rw [e5]
                    rfl
          · rintro σ' H' ⟨rfl, b, eb, rfl⟩
            rw [eb] at key
            cases hd : rdD (rdP (tl bd)).1 with
            | none =>
              have e5 : lnum (rdP (tl bd)).1 = -1 := by unfold lnum; rw [hd]
              rw [hd] at key
              refine ⟨fun _ _ => False, ⟨_, rfl, _, _, rfl, rfl, _, rfl, if_pos_of (decide_eq_true (by rw [e5]; decide)) ?_⟩, fun _ _ h => h.elim⟩
              exact if_pos_of rfl (hN key _ s1)
            | some n =>
              have e5 : lnum (rdP (tl bd)).1 = n := by unfold lnum; rw [hd]
              rw [hd] at key
              rw [e5]
              have key2 : rdV (tl z) = (if (below && decide (n = 0) || decide (Nat.gcd n b ≠ 1)) = true then none else some (if below then -(n : Int) else (n : Int), (b : Int))) := key
              have bad : ((below && decide (n = 0)) || decide (Nat.gcd n b ≠ 1)) = true → Q .non H' := fun c => hN (by rw [key2, if_pos c]) _ s1
              have e0 : decide (V.int (n : Int) = V.int 0) = decide (n = 0) := decide_eq_decide.mpr ⟨fun e => by injection e; omega, fun e => by rw [e]; rfl⟩
              refine ⟨fun σ2 H2 => H2 = H' ∧ (below && decide (n = 0)) = false ∧ σ2 = [some (.str z), some (.str bd), some (.ref l), some (.int n), some (.int b), none, none, none], ?_, ?_⟩
              · refine ⟨_, rfl, _, _, rfl, rfl, _, rfl, if_neg_of (decide_eq_false (by omega)) ?_⟩
                refine ⟨_, rfl, rfl, _, rfl, ie (fun c => ?_) (fun c => ?_)⟩ <;> rw [e0] at c
                · refine ⟨_, rfl, _, rfl, _, rfl, hz', rfl, _, rfl, ie (fun c2 => ?_) (fun c2 => ?_)⟩ <;> rw [hbel] at c2
                  · exact bad (by rw [c, c2]; rfl)
                  · exact ⟨rfl, by rw [c2]; rfl, rfl⟩
                · exact iteF ⟨rfl, by rw [c, Bool.and_false], rfl⟩
              · rintro σ2 H2 ⟨rfl, c1, rfl⟩
                refine ⟨_, rfl, _, rfl, ?_⟩
                refine ⟨fun σ3 H3 => H3 = H2 ∧ ∃ v7 : Option V, σ3 = [some (.str z), some (.str bd), some (.ref l), some (.int n), some (.int b), some (.int (Nat.gcd n b : Nat)), some (.int 0), v7], ?_, ?_⟩
                · refine ⟨fun m σ3 H3 => ∃ (x y : Nat) (v : Option V), m = y ∧ σ3 = [some (.str z), some (.str bd), some (.ref l), some (.int n), some (.int b), some (.int x), some (.int y), v] ∧ H3 = H2 ∧ Nat.gcd x y = Nat.gcd n b, ⟨b, n, b, none, rfl, rfl, rfl, rfl⟩, ?_⟩
                  rintro m σ3 H3 ⟨x, y, v, em, rfl, rfl, hg⟩
                  subst m
                  refine ⟨_, rfl, _, _, rfl, rfl, _, rfl, ie (fun h1 => ?_) (fun h1 => ?_)⟩
                  · have hy : 0 < y := by
                      have := of_decide_eq_true h1
                      omega
                    refine ⟨_, fun σ' H2 hN => hN, _, rfl, _, rfl, _, _, rfl, rfl, (by show (0 : Int) < (y : Int); omega), _, rfl, _, rfl, ?_⟩
                    exact ⟨x % y, Nat.mod_lt _ hy, y, x % y, _, rfl, rfl, rfl, by rw [← hg, Nat.gcd_comm x y, Nat.gcd_rec y x, Nat.gcd_comm]⟩
                  · have hy : y = 0 := by
                      have := of_decide_eq_false h1
                      omega
                    subst hy
                    rw [Nat.gcd_zero_right] at hg
                    exact ⟨rfl, _, by rw [hg]; rfl⟩
                · rintro σ3 H3 ⟨rfl, v7, rfl⟩
                  have e1 : decide (V.int ((Nat.gcd n b : Nat) : Int) = V.int 1) = decide (Nat.gcd n b = 1) := decide_eq_decide.mpr ⟨fun e => by injection e; omega, fun e => by rw [e]; rfl⟩
                  refine ⟨_, rfl, rfl, _, rfl, ie (fun c2 => ?_) (fun c2 => ?_)⟩ <;> rw [e1] at c2
                  · exact bad (by rw [c1, Bool.false_or]; simpa using c2)
                  · have c3 : Nat.gcd n b = 1 := by simpa using c2
                    have fin : ∀ (p : Addr) (H4 : Hp), H3 p = none → Same H3 H4 → H4 p = some (.tup [.int (if below then -(n : Int) else (n : Int)), .int (b : Int)]) → Q (.ref p) H4 := fun p H4 hp s2 h2 => by
                      refine hQ _ _ ?_ p H4 (s1.trans s2) h2
                      rw [key2, c1, if_neg]
                      rw [Bool.false_or]
                      exact fun z => of_decide_eq_true z c3
                    refine ⟨_, rfl, _, rfl, _, rfl, hz', rfl, _, rfl, ie (fun c4 => ?_) (fun c4 => ?_)⟩ <;> rw [hbel] at c4 <;> rw [c4] at fin
                    · refine ⟨_, rfl, _, rfl, _, rfl, (by show 2 ≤ sizeLine; decide), fun p hp => ?_⟩
                      exact fin p _ hp (same_upd hp) upd_same
                    · refine ⟨_, rfl, _, rfl, (by show 2 ≤ sizeLine; decide), fun p hp => ?_⟩
                      exact fin p _ hp (same_upd hp) upd_same
      cases hp : par [47] [] (tl bd) with
      | none =>
        rw [hp] at hsp
        obtain ⟨y, e1, e2⟩ := ys_one hsp
        have ep : rdP (tl bd) = (tl bd, none) := by unfold rdP; rw [hp]
        exact .inr ⟨y, none, e1, by rw [ep, e2]; rfl, by rw [ep]; rfl⟩
      | some ab =>
        obtain ⟨a, b⟩ := ab
        rw [hp] at hsp
        have ep : rdP (tl bd) = (a, some b) := by unfold rdP; rw [hp]
        by_cases h47 : 47 ∈ b
        · obtain ⟨c, d, hcd⟩ := par_some b [] h47
          refine .inl ⟨?_, ?_⟩
          · have hsp2 : ys.map tl = a :: spl [47] 0 [] b := hsp
            rw [spl_par, hcd] at hsp2
            have hsp3 : ys.map tl = a :: c :: spl [47] 0 [] d := hsp2
            have : 1 ≤ (spl [47] 0 [] d).length := by
              rw [spl_par]
              cases par [47] [] d <;> simp
            rw [hlen, hsp3]
            simp only [List.length_cons]
            omega
          · rw [key, ep]
            have e4 : rdB (some b) = none := by simp only [rdB, rdD_free h47]
            show rdF below (rdB (some b)) (rdD a) = none
            rw [e4]
            rfl
        · have hsp2 : ys.map tl = a :: spl [47] 0 [] b := hsp
          rw [spl_par, par_none1 h47] at hsp2
          obtain ⟨y, x, e1, e2, e3⟩ := ys_two hsp2
          refine .inr ⟨y, some x, e1, by rw [ep, e2], ?_⟩
          rw [ep]
          show some b = some (tl x)
          rw [e3]
          rfl
end
end K02
namespace K02
open PySem PySem.Spec PyProof.Rows L2 He TL EL
section
variable {P : Program} {w : World} {K : PySem.W.Frag} {mg : Str → Option Value} {base : Heap}
/-! _law_read -/
def spRead (K : PySem.W.Frag) : Sp := fun vs H Q _ => ∃ v th, vs = [v] ∧ ThOk K H v th ∧ ((¬ ∃ z, th = .d (.str z)) → ∀ p H', Same H H' → H' p = some (.tup [.str "True"]) → Q (.ref p) H') ∧
  ∀ z : Str, th = .d (.str z) → z.length ≤ 1000 ∧ (rdV (tl z) = none → ∀ p H', Same H H' → H' p = some (.tup [.str "True"]) → Q (.ref p) H') ∧ ∀ a b : Int, rdV (tl z) = some (a, b) → ∀ p H', Same H H' → H' p = some (.tup [.int a, .int b]) → Q (.ref p) H'
theorem d_read (T : Txt K mg) : Dn P w K mg base CX0 4 "_law_read" (spRead K) := by
  obtain ⟨fd, F⟩ := T.f__law_read
  have D_read_value := d_read_value (P := P) (w := w) (base := base) T
  refine dnN T.g__law_read F (fun _ _ _ _ _ _ us hl => match us, hl with | [_], _ => rfl) sc__law_read (fun vs H Q E h => ?_) (fun cdv A outer s H vs Q E hr h => ?_)
  · obtain ⟨v, th, rfl, _⟩ := h
    rfl
  · obtain ⟨v, th, rfl, ht, hb, hz⟩ := h
    refine ⟨_, PSs.nox (pss_cons (ps_try_as (i := 2) (by rfl) (by rfl) sc__law_read.nd rfl (by rfl) ⟨rfl, by decide, .inl T.x_NoValue.g⟩ takes0 (fun W pn xe tk po => (pss_one (ps_set (i := 1) sc__law_read.nd rfl (.inl rfl) (clx tk D_read_value (hr.mono (by decide)) (pa_cons (pv 0) pa_nil)))))
      (fun a oe cls d pn hz hf => (pss_one (ps_ret (pe_tup (pa_cons (pe_callTy call_str_bool (by rfl) T.z_str (by decide +kernel) (pa_cons (pe_callB (call_isX _ T.c_NoValue hz hf) (by rfl) T.z_isinstance (by decide +kernel) (pa_cons (pv 2) (pa_cons (pe_bltn (v := .ty "ValueError") (by rfl) T.z_ValueError (by decide +kernel) rfl) pa_nil))) pa_nil)) pa_nil))))))
      (pss_one (ps_ret (pv 1)))), ?_⟩
    refine ⟨_, rfl, v, th, rfl, ht, fun hn => ?_, fun z ez => ?_⟩
    · refine ⟨true, T.e_NoValue_NoValue, fun _ a _ => ?_, fun z => by cases z⟩
      refine ⟨_, rfl, rfl, rfl, _, _, _, rfl, fun u r => r, T.k_NoValue_ValueError, _, rfl, (by show 1 ≤ sizeLine; decide), fun p np => ?_⟩
      exact hb hn p _ (same_upd np) upd_same
    · obtain ⟨hl, hN, hQ⟩ := hz z ez
      refine ⟨by omega, fun e H1 s1 => ?_, fun a b e p H1 np s1 h1 => ?_⟩
      · refine ⟨true, T.e_NoValue_NoValue, fun _ a _ => ?_, fun z => by cases z⟩
        refine ⟨_, rfl, rfl, rfl, _, _, _, rfl, fun u r => r, T.k_NoValue_ValueError, _, rfl, (by show 1 ≤ sizeLine; decide), fun p np => ?_⟩
        exact hN e p _ (s1.trans (same_upd np)) upd_same
      · exact ⟨_, rfl, hQ a b e p H1 s1 h1⟩
theorem eqv2 (a b c d : Int) : PyData.eqv (.tuple [.int a, .int b]) (.tuple [.int c, .int d]) = decide (a = c ∧ b = d) := by
  simp [PyData.eqv, PyData.eqvAll, Bool.decide_and, Bool.beq_eq_decide_eq]
theorem eqv1 (x : Str) : PyData.eqv (.tuple [.str x]) (.tuple [.str x]) = true := by
  simp [PyData.eqv, PyData.eqvAll]
theorem sh1 : SeqAt.shaped (.tuple [.str "True"]) = true := by decide +kernel
theorem dp2 {H : Hp} {p : Addr} {a b : Int} (h : SqT K H p [.int a, .int b]) : Dp K H (.ref p) (.tuple [.int a, .int b]) := .tup h (.cons (.int _) (.cons (.int _) .nil))
theorem dp1 {H : Hp} {p : Addr} {x : Str} (h : SqT K H p [.str x]) : Dp K H (.ref p) (.tuple [.str x]) := .tup h (.cons (.str _) .nil)
def spLaw (K : PySem.W.Frag) : Sp := fun vs H Q _ => ∃ (a : Addr) (ns : List Int), vs = [.ref a] ∧ SqL K H a (ns.map V.int) ∧ ns.length ≤ 63 ∧ ∀ H', Q (.bl true) H'
theorem ok_law {fd : FuncData} (T : Txt K mg) (F : FunD K "law" "law" (defArgs s_law) (defBody s_law) (defScope s_law) ([] : List V) [] (ga K "law") fd) : FnOk P w K mg base CX0 6 (ga K "law") fd ["_law_script"] (spLaw K) := by
  have D__law_begin := d_begin (P := P) (w := w) (base := base) T
  have D__law_text := d_text (P := P) (w := w) (base := base) T
  have D__law_due := d_due (P := P) (w := w) (base := base) T
  have D__law_read := d_read (P := P) (w := w) (base := base) T
  have D_text_of := d_text_of (P := P) (w := w) (base := base) T
  refine F.ok sc_law (fun vs H Q E h => ?_) (fun cdv A outer s H vs Q E hr h => ?_)
  · obtain ⟨a, ns, rfl, _⟩ := h
    rfl
  · obtain ⟨a, ns, rfl, hS, _, q⟩ := h
    refine ⟨_, PSs.nox (pss_cons (ps_set (i := 1) sc_law.nd rfl (.inl rfl) (cl D__law_begin (hr.mono (by decide)) (pa_cons (pv 0) pa_nil)))
      (pss_mid (ps_for PassesOwn.never rfl (pi_range1 (by rfl) T.z_range (pa_cons pe_int pa_nil)) (pg_name (i := 2) sc_law.nd rfl (.inl rfl))
      (pss_cons (ps_set (i := 3) sc_law.nd rfl (.inl rfl) (cl D__law_text (hr.mono (by decide)) (pa_cons (pv 1) pa_nil)))
      (pss_cons (ps_set (i := 4) sc_law.nd rfl (.inl rfl) (cl D__law_due (hr.mono (by decide)) (pa_cons (pv 3) pa_nil)))
      (pss_cons (ps_set (i := 5) sc_law.nd rfl (.inl rfl) (cl D__law_read (hr.mono (by decide)) (pa_cons (pv 3) pa_nil)))
      (pss_cons (ps_if (PW.pt (pw_and (pt_cmpR op_isN (pv 4) pe_non (nomark _)) (pw_and1 (pt_cmpR (op_neD hr.units) (pv 5) (pe_tup (pa_cons pe_str pa_nil)) (nomark _))))) (pss_one (ps_ret pe_bl)) pss_nil)
      (pss_one (ps_if (pt_cmpR op_notN (pv 4) pe_non (nomark _)) (pss_one (ps_if (PW.pt (pw_or (pt_not (pt_val (pe_callB call_isi (by rfl) T.z_isinstance (by decide +kernel) (pa_cons (pv 5) (pa_cons (pe_bltn (v := .ty "tuple") (by rfl) T.z_tuple (by decide +kernel) rfl) pa_nil))))) (pw_or (pt_cmpR (op_neD hr.units) (pv 5) (pv 4) (nomark _)) (pw_or1 (pt_cmpR op_ne (cl D_text_of (hr.mono (by decide)) (pa_cons (pv 4) pa_nil)) (pv 3) (nomark _)))))) (pss_one (ps_ret pe_bl)) pss_nil)) pss_nil)))))))
      (pss_cons (ps_for PassesOwn.never rfl (pi_list (pe_lst (pa_cons pe_non (pa_cons pe_int (pa_cons (pe_lst (pa_cons pe_str pa_nil)) (pa_cons (pe_tup (pa_cons pe_str pa_nil)) (pa_cons pe_bl pa_nil))))))) (pg_name (i := 6) sc_law.nd rfl (.inl rfl))
      (pss_one (ps_if (pt_cmpR (op_neD hr.units) (cl D__law_read (hr.mono (by decide)) (pa_cons (pv 6) pa_nil)) (pe_tup (pa_cons pe_str pa_nil)) (nomark _)) (pss_one (ps_ret pe_bl)) pss_nil)))
      (pss_one (ps_ret pe_bl))))), ?_⟩
    refine ⟨_, rfl, a, ns, rfl, hS, fun p l H1 np nl s1 S1 => ?_⟩
    refine ⟨fun σ' H' => ∃ v2 v3 v4 v5 : Option V, σ' = [some (.ref a), some (.ref p), v2, v3, v4, v5, none] ∧ Src H' p l, ?_, ?_⟩
    · refine ⟨12, rfl, by decide, by decide, for_range (n := 12) (fun i σ' H' => ∃ v2 v3 v4 v5 : Option V, σ' = [some (.ref a), some (.ref p), v2, v3, v4, v5, none] ∧ Src H' p l) ⟨_, _, _, _, rfl, S1⟩ ?_ (fun σ' H' h => h)⟩
      rintro i σ' H2 hi ⟨v2, v3, v4, v5, rfl, S2⟩
      refine ⟨_, rfl, p, l, rfl, S2, fun z H3 hz S3 b3 => ?_⟩
      refine ⟨_, rfl, z, rfl, by omega, fun hN H4 s4 => ?_, fun x y hxy o H4 s4 h4 => ?_⟩
      · -- no value
        refine ⟨_, rfl, _, .d (.str z), rfl, .str _, fun hn => absurd ⟨z, rfl⟩ hn, fun z' ez => ?_⟩
        have ez' : z = z' := by injection ez with ez; injection ez
        subst ez'
        refine ⟨by omega, fun _ o5 H5 s5 h5 => ?_, fun x y hxy => by rw [hN] at hxy; cases hxy⟩
        refine ⟨_, rfl, rfl, _, rfl, iteT ?_⟩
        refine ⟨_, rfl, (by show 1 ≤ sizeLine; decide), fun o6 n6 => ?_⟩
        generalize eH6 : upd H5 o6 _ = H6
        have s6 : Same H5 H6 := eH6 ▸ same_upd n6
        have h6 : H6 o6 = some _ := eH6 ▸ upd_same
        refine ⟨_, _, dp1 (SqT.of (s6 _ _ h5)), dp1 (SqT.of h6), sh1, sh1, _, rfl, ?_⟩
        rw [eqv1]
        refine iteF ?_
        refine ⟨_, rfl, rfl, _, rfl, iteF ?_⟩
        exact ⟨_, _, _, _, rfl, ((S3.same s4).same s5).same s6⟩
      · obtain ⟨etx, hlow, ha40, hb40⟩ := rdV_inv hxy
        refine ⟨_, rfl, _, .d (.str z), rfl, .str _, fun hn => absurd ⟨z, rfl⟩ hn, fun z' ez => ?_⟩
        have ez' : z = z' := by injection ez with ez; injection ez
        subst ez'
        refine ⟨by omega, fun hN => (by rw [hxy] at hN; cases hN), fun x2 y2 hxy2 o5 H5 s5 h5 => ?_⟩
        rw [hxy] at hxy2
        injection hxy2 with hxy2
        injection hxy2 with ex ey
        subst ex ey
        refine ⟨_, rfl, rfl, _, rfl, iteF ?_⟩
        refine iteF ?_
        refine ⟨_, rfl, rfl, _, rfl, iteT ?_⟩
        have h4' := s5 _ _ h4
        refine ⟨_, rfl, _, _, _, _, _, rfl, .ty _, Dp.ty (dp2 (SqT.of h5)), kit_d K .tup _, _, rfl, iteF ?_⟩
        refine ⟨_, rfl, _, rfl, _, _, dp2 (SqT.of h5), dp2 (SqT.of h4'), rfl, rfl, _, rfl, ?_⟩
        rw [eqv2, decide_eq_true ⟨rfl, rfl⟩]
        refine iteF ?_
        have up : ∀ n : Nat, n < 10 ^ 40 → n < 2 ^ 1000 := fun n h => Nat.lt_of_lt_of_le h (by decide +kernel)
        refine ⟨_, rfl, o, x, y, rfl, SqT.of h4', up _ ha40, up _ hb40, _, rfl, rfl, _, rfl, if_neg_of ?_ ?_⟩
        · rw [ext_tl etx, decide_eq_true rfl]
          rfl
        · exact ⟨_, _, _, _, rfl, (S3.same s4).same s5⟩
    · rintro σ' H2 ⟨v2, v3, v4, v5, rfl, S2⟩
      refine ⟨(by show 1 ≤ sizeLine; decide), fun l1 n1 => ?_⟩
      generalize eH3 : upd H2 l1 _ = H3
      have s3 : Same H2 H3 := eH3 ▸ same_upd n1
      have h3 : H3 l1 = some _ := eH3 ▸ upd_same
      refine ⟨(by show 1 ≤ sizeLine; decide), fun l2 n2 => ?_⟩
      generalize eH4 : upd H3 l2 _ = H4
      have s4 : Same H3 H4 := eH4 ▸ same_upd n2
      have h4 : H4 l2 = some _ := eH4 ▸ upd_same
      refine ⟨(by show 5 ≤ sizeLine; decide), fun l3 n3 => ?_⟩
      generalize eH5 : upd H4 l3 _ = H5
      have s5 : Same H4 H5 := eH5 ▸ same_upd n3
      have h5 : H5 l3 = some _ := eH5 ▸ upd_same
      refine ⟨l3, rfl, ⟨_, SqL.of h5⟩, for_list (K := K) (a := l3) (xs := [.non, .int 7, .ref l1, .ref l2, .bl true]) (fun i σ' H' => ∃ v6 : Option V, σ' = [some (.ref a), some (.ref p), v2, v3, v4, v5, v6] ∧ Same H5 H')
        ⟨none, rfl, .refl _⟩ (fun i σ' H' _ ⟨_, _, s⟩ => s.seq (SqL.of h5)) ?_ ?_⟩
      · rintro i y σ' H' hi ⟨v6, rfl, s⟩
        suffices turn : ∃ d, Dp K H' y d ∧ ¬ ∃ z, Th.d d = .d (.str z) by
          obtain ⟨d, hd, hv⟩ := turn
          refine ⟨_, rfl, _, .d d, rfl, hd, fun _ o H6 s6 h6 => ?_, fun z ez => absurd ⟨z, ez⟩ hv⟩
          refine ⟨(by show 1 ≤ sizeLine; decide), fun o7 n7 => ?_⟩
          generalize eH7 : upd H6 o7 _ = H7
          have s7 : Same H6 H7 := eH7 ▸ same_upd n7
          have h7 : H7 o7 = some _ := eH7 ▸ upd_same
          refine ⟨_, _, dp1 (SqT.of (s7 _ _ h6)), dp1 (SqT.of h7), sh1, sh1, _, rfl, ?_⟩
          rw [eqv1]
          exact iteF ⟨_, rfl, s.trans (s6.trans s7)⟩
        match i, hi with
        | 0, hi =>
          obtain rfl := (Option.some.inj hi).symm
          exact ⟨.none, .non, fun ⟨z, e⟩ => by cases e⟩
        | 1, hi =>
          obtain rfl := (Option.some.inj hi).symm
          exact ⟨.int 7, .int _, fun ⟨z, e⟩ => by cases e⟩
        | 2, hi =>
          obtain rfl := (Option.some.inj hi).symm
          exact ⟨.list [.str "7"], .lst (SqL.of (s _ _ (s5 _ _ (s4 _ _ h3)))) (.cons (.str _) .nil), fun ⟨z, e⟩ => by cases e⟩
        | 3, hi =>
          obtain rfl := (Option.some.inj hi).symm
          exact ⟨.tuple [.str "7"], .tup (SqT.of (s _ _ (s5 _ _ h4))) (.cons (.str _) .nil), fun ⟨z, e⟩ => by cases e⟩
        | 4, hi =>
          obtain rfl := (Option.some.inj hi).symm
          exact ⟨.bool true, .bl _, fun ⟨z, e⟩ => by cases e⟩
        | n + 5, hi => cases hi
      · rintro σ' H' ⟨v6, rfl, s⟩
        exact q _
end
end K02
namespace K02
open PySem PySem.Spec PyProof.Rows L2 He TL EL
def dd_common_divisor : He.DefD := ⟨("common_divisor", none), "common_divisor", "common_divisor", defArgs s_common_divisor, defBody s_common_divisor, defScope s_common_divisor, [], []⟩
def dd_text_of : He.DefD := ⟨("text_of", none), "text_of", "text_of", defArgs s_text_of, defBody s_text_of, defScope s_text_of, [], []⟩
def dd_read_digits : He.DefD := ⟨("read_digits", none), "read_digits", "read_digits", defArgs s_read_digits, defBody s_read_digits, defScope s_read_digits, [], []⟩
def dd_read_value : He.DefD := ⟨("read_value", none), "read_value", "read_value", defArgs s_read_value, defBody s_read_value, defScope s_read_value, [], []⟩
def dd__law_begin : He.DefD := ⟨("_law_begin", none), "_law_begin", "_law_begin", defArgs s__law_begin, defBody s__law_begin, defScope s__law_begin, [], []⟩
def dd__law_draw : He.DefD := ⟨("_law_draw", none), "_law_draw", "_law_draw", defArgs s__law_draw, defBody s__law_draw, defScope s__law_draw, [], []⟩
def dd__law_letter : He.DefD := ⟨("_law_letter", none), "_law_letter", "_law_letter", defArgs s__law_letter, defBody s__law_letter, defScope s__law_letter, [], []⟩
def dd__law_digits : He.DefD := ⟨("_law_digits", none), "_law_digits", "_law_digits", defArgs s__law_digits, defBody s__law_digits, defScope s__law_digits, [], []⟩
def dd__law_plain : He.DefD := ⟨("_law_plain", none), "_law_plain", "_law_plain", defArgs s__law_plain, defBody s__law_plain, defScope s__law_plain, [], []⟩
def dd__law_bent : He.DefD := ⟨("_law_bent", none), "_law_bent", "_law_bent", defArgs s__law_bent, defBody s__law_bent, defScope s__law_bent, [], []⟩
def dd__law_text : He.DefD := ⟨("_law_text", none), "_law_text", "_law_text", defArgs s__law_text, defBody s__law_text, defScope s__law_text, [], []⟩
def dd__law_number : He.DefD := ⟨("_law_number", none), "_law_number", "_law_number", defArgs s__law_number, defBody s__law_number, defScope s__law_number, [], []⟩
def dd__law_due : He.DefD := ⟨("_law_due", none), "_law_due", "_law_due", defArgs s__law_due, defBody s__law_due, defScope s__law_due, [], []⟩
def dd__law_read : He.DefD := ⟨("_law_read", none), "_law_read", "_law_read", defArgs s__law_read, defBody s__law_read, defScope s__law_read, [], []⟩
def dd_law : He.DefD := ⟨("law", none), "law", "law", defArgs s_law, defBody s_law, defScope s_law, [], []⟩
def fn : List He.DefD := [dd_common_divisor, dd_text_of, dd_read_digits, dd_read_value, dd__law_begin, dd__law_draw, dd__law_letter, dd__law_digits, dd__law_plain, dd__law_bent, dd__law_text, dd__law_number, dd__law_due, dd__law_read, dd_law]
def fa : List He.Fa := [.glo "common_divisor", .glo "text_of", .glo "read_digits", .glo "read_value", .glo "_law_begin", .glo "_law_draw", .glo "_law_letter", .glo "_law_digits", .glo "_law_plain", .glo "_law_bent", .glo "_law_text", .glo "_law_number", .glo "_law_due", .glo "_law_read", .glo "law", .glo "AskError", .exc "AskError", .glo "NoValue", .exc "NoValue", .int "MOST_DIGITS" 40, .str "DIGITS" "0123456789", .free "ValueError", .free "abs", .free "int", .free "len", .free "isinstance", .free "str", .free "list", .free "range", .free "tuple", .exm "NoValue" "NoValue" true]
def exL (K : PySem.W.Frag) : List Bool := [excCB K (ga K "NoValue"), decide (PySem.W.kitOne K (.ref (ga K "NoValue")) (.type "ValueError") = some true)]
def ex (K : PySem.W.Frag) : Bool := (exL K).all id
theorem txt_of {K : PySem.W.Frag} {h : Heap} {mg : Str → Option Value} (X : K.In h) (G : h.Ns mainGlobals mg) (c : He.SaysD fa fn K) (m : ex K = true) : Txt K mg := by
  exact ⟨He.glo_ok X G (c.fact 0 (by rfl)),
    He.glo_ok X G (c.fact 1 (by rfl)),
    He.glo_ok X G (c.fact 2 (by rfl)),
    He.glo_ok X G (c.fact 3 (by rfl)),
    He.glo_ok X G (c.fact 4 (by rfl)),
    He.glo_ok X G (c.fact 5 (by rfl)),
    He.glo_ok X G (c.fact 6 (by rfl)),
    He.glo_ok X G (c.fact 7 (by rfl)),
    He.glo_ok X G (c.fact 8 (by rfl)),
    He.glo_ok X G (c.fact 9 (by rfl)),
    He.glo_ok X G (c.fact 10 (by rfl)),
    He.glo_ok X G (c.fact 11 (by rfl)),
    He.glo_ok X G (c.fact 12 (by rfl)),
    He.glo_ok X G (c.fact 13 (by rfl)),
    He.glo_ok X G (c.fact 14 (by rfl)),
    xc_of (He.glo_ok X G (c.fact 15 (by rfl))) (He.exc_ok (c.fact 16 (by rfl))),
    xc_of (He.glo_ok X G (c.fact 17 (by rfl))) (He.exc_ok (c.fact 18 (by rfl))),
    gv_int (He.int_ok X G (c.fact 19 (by rfl))),
    gv_str (He.str_ok X G (c.fact 20 (by rfl))),
    He.free_ok X G (c.fact 21 (by rfl)),
    He.free_ok X G (c.fact 22 (by rfl)),
    He.free_ok X G (c.fact 23 (by rfl)),
    He.free_ok X G (c.fact 24 (by rfl)),
    He.free_ok X G (c.fact 25 (by rfl)),
    He.free_ok X G (c.fact 26 (by rfl)),
    He.free_ok X G (c.fact 27 (by rfl)),
    He.free_ok X G (c.fact 28 (by rfl)),
    He.free_ok X G (c.fact 29 (by rfl)),
    He.exm_ok (c.fact 30 (by rfl)),
    c.def_ 0 (d := dd_common_divisor) rfl,
    c.def_ 1 (d := dd_text_of) rfl,
    c.def_ 2 (d := dd_read_digits) rfl,
    c.def_ 3 (d := dd_read_value) rfl,
    c.def_ 4 (d := dd__law_begin) rfl,
    c.def_ 5 (d := dd__law_draw) rfl,
    c.def_ 6 (d := dd__law_letter) rfl,
    c.def_ 7 (d := dd__law_digits) rfl,
    c.def_ 8 (d := dd__law_plain) rfl,
    c.def_ 9 (d := dd__law_bent) rfl,
    c.def_ 10 (d := dd__law_text) rfl,
    c.def_ 11 (d := dd__law_number) rfl,
    c.def_ 12 (d := dd__law_due) rfl,
    c.def_ 13 (d := dd__law_read) rfl,
    c.def_ 14 (d := dd_law) rfl,
    excCB_ok (exG m 0 (by rfl)),
    of_decide_eq_true (exG m 1 (by rfl))⟩
def loose : List Str := ["AskError", "NoValue", "MOST_DIGITS", "DIGITS", "common_divisor", "text_of", "read_digits", "read_value", "_law_begin", "_law_draw", "_law_letter", "_law_digits", "_law_plain", "_law_bent", "_law_text", "_law_number", "_law_due", "_law_read"]
abbrev R : PySem.W.OpenRow := PySem.W.OpenLaw.row PySem.Challenge.rw_endlessasks_k02_whole_texts_of_values
abbrev hk : PySem.W.Hook := hookM 5 fa fn ex
def ob (s : PySem.W.SharedT) : AlM := obsMG 5 fa fn ex (HandSHeadRun.getT s)
theorem ob_eq (s : PySem.W.SharedT) : ob s = hk.obs s.abs := obsMG_eq (HandSHeadRun.getT_eq s)
theorem run (w : World) : HandSHeadRun.RunEq R (PySem.W.view R.prog [21]) hk ob 8000 loose w := by
  intro os
  kernel_rfl
end K02
namespace K02
open PySem PySem.Spec PyProof.Rows L2 He TL EL
theorem facts {P : Program} {w : World} {K : PySem.W.Frag} {mg : Str → Option Value} {f : Addr} (T : Txt K mg) (hfa : mg ("law" : Str) = some (.ref f)) :
    ∃ fd : FuncData, (∀ (s : Shared) (v : Value), BindsTo s fd ⟨[v], []⟩ [("_law_script", v)]) ∧ ∀ base : Heap, FnOk P w K mg base CX0 6 f fd ["_law_script"] (spLaw K) := by
  obtain ⟨fd, F⟩ := T.f_law
  have e := hfa.symm.trans T.g_law
  cases e
  have b := FunD.bindsA (ps := ["_law_script"]) F (fun _ _ _ _ _ _ us hl => match us, hl with | [_], _ => rfl)
  exact ⟨fd, fun s v => b s [v] rfl, fun base => ok_law T F⟩
end K02
open PySem PySem.W PySem.Calls PyProof.Rows
set_option maxHeartbeats 0 in
theorem PySem.Challenge.cw_endlessasks_k02_whole_texts_of_values_holds : PySem.Challenge.rw_endlessasks_k02_whole_texts_of_values.Holds := by
  w_on; o_law
  refine HandSHeadRun.head_any (r := OpenLaw.row PySem.Challenge.rw_endlessasks_k02_whole_texts_of_values) (q := view (OpenLaw.row PySem.Challenge.rw_endlessasks_k02_whole_texts_of_values).prog [21]) (H := K02.hk) (ob := K02.ob) (M := 8000) (loose := K02.loose) (d := HandSHeadRun.topDef (OpenLaw.row PySem.Challenge.rw_endlessasks_k02_whole_texts_of_values).prog 21) (kwd := []) K02.ob_eq
    (by kernel_rfl) (fun s => by kernel_rfl) K02.run (by kernel_rfl) (by kernel_rfl) (by kernel_rfl) (by rfl) (by first | assumption | decide +kernel) (by decide +kernel) ⟨rfl, rfl, rfl, rfl, rfl, by decide +kernel⟩ ?hw ?hc
  case hw => w_witness2
  case hc =>
    refine L2.walk_ofE (l := PySem.Challenge.rw_endlessasks_k02_whole_texts_of_values) (n := 63) (k := 6) (x := "_law_script") (CX := L2.CX0) rfl (by decide) (by kernel_rfl) ⟨rfl, by decide, by decide⟩ ?F (fun _ _ _ _ z => z)
    intro w mg fa h Y G hmg0
    obtain ⟨K, KX, c, m⟩ := Y
    have hmg : mg ("law" : PySem.Str) = some (.ref fa) := by
      have e : (HandSHeadRun.topDef (OpenLaw.row PySem.Challenge.rw_endlessasks_k02_whole_texts_of_values).prog 21).name = ("law" : PySem.Str) := by kernel_rfl
      rw [← e]
      exact hmg0
    obtain ⟨fd, hb, hF⟩ := K02.facts (P := (PySem.Challenge.rw_endlessasks_k02_whole_texts_of_values).prog) (w := w) (K02.txt_of KX G c m) hmg
    exact ⟨K, fd, K02.spLaw K, KX, hb, fun H a ns hl _ hS => ⟨a, ns, rfl, hS, hl, fun _ => rfl⟩, fun base _ _ => hF base⟩
