import PyProof.Rows.All
import Wide.All
import OpenK.AllK
import Wide.FinOn
import KE.KStateDown
import HandS.ForMost
import HandS.ForExc
import HandS.More
import HandS.Wide
import HandS.IsInst
import HandS.ExcIs
import HandS.FStr
import HandS.Defaults
import HandS.TupAny
import HandS.TupLe
import HandS.Deep
import HandS.Flow
import HandS.Walk
import HandS.Head0
import HandS.Head1
import HandS.Head2
import HandS.HeadEnd
import HandS.HeadHook1
import HandS.HeadHook2
import HandS.HeadNt
import HandS.ExcField
import KE.KExcSuper
import HandS.SlotsOwn
import KE.KOpsOwn
import HandS.Star
import HandS.DictComp
import HandS.Conv
import PySem.Challenge.RW_endlessasks_k06_points_and_demands
set_option Elab.async false
set_option linter.all false
set_option maxRecDepth 100000
namespace EL
/-- the greatest common divisor, as the loop leaves it -/
def cd (a b : Int) : Int := ((Nat.gcd a.natAbs b.natAbs : Nat) : Int)
def nrm (t b : Int) : Int × Int := if b < 0 then ((-t) / cd (-t) (-b), (-b) / cd (-t) (-b)) else (t / cd t b, b / cd t b)
theorem cd_pos {a b : Int} (h : b ≠ 0) : 0 < cd a b := by
  unfold cd
  have := Nat.gcd_pos_of_pos_right a.natAbs (n := b.natAbs) (by omega)
  omega
theorem cd_dvd_l (a b : Int) : cd a b ∣ a := by
  unfold cd
  exact Int.ofNat_dvd_left.mpr (Nat.gcd_dvd_left _ _)
theorem cd_dvd_r (a b : Int) : cd a b ∣ b := by
  unfold cd
  exact Int.ofNat_dvd_left.mpr (Nat.gcd_dvd_right _ _)
theorem cd_neg_l (a b : Int) : cd (-a) b = cd a b := by unfold cd; rw [Int.natAbs_neg]
theorem cd_neg_r (a b : Int) : cd a (-b) = cd a b := by unfold cd; rw [Int.natAbs_neg]
/-- a value in lowest terms -/
def Low (a b : Int) : Prop := 0 < b ∧ cd a b = 1
theorem cd_div {a b : Int} (hb : b ≠ 0) : cd (a / cd a b) (b / cd a b) = 1 := by
  have hp := cd_pos (a := a) hb
  have e : ∀ x : Int, cd a b ∣ x → (x / cd a b).natAbs = x.natAbs / Nat.gcd a.natAbs b.natAbs := fun x hx => by
    rw [Int.natAbs_ediv_of_dvd hx]
    rfl
  show ((Nat.gcd (a / cd a b).natAbs (b / cd a b).natAbs : Nat) : Int) = 1
  rw [e a (cd_dvd_l a b), e b (cd_dvd_r a b), Nat.gcd_div (Nat.gcd_dvd_left _ _) (Nat.gcd_dvd_right _ _), Nat.div_self (Nat.gcd_pos_of_pos_right _ (by omega))]
  rfl
theorem nrm_low {t b : Int} (hb : b ≠ 0) : Low (nrm t b).1 (nrm t b).2 := by
  unfold nrm
  by_cases h : b < 0
  · rw [if_pos h]
    have hp := cd_pos (a := -t) (b := -b) (by omega)
    refine ⟨?_, cd_div (by omega)⟩
    exact Int.ediv_pos_of_pos_of_dvd (by omega) (Int.le_of_lt hp) (cd_dvd_r _ _)
  · rw [if_neg h]
    have hp := cd_pos (a := t) (b := b) hb
    refine ⟨?_, cd_div hb⟩
    exact Int.ediv_pos_of_pos_of_dvd (by omega) (Int.le_of_lt hp) (cd_dvd_r _ _)
theorem nrm_eq {t b : Int} (hb : b ≠ 0) : (nrm t b).1 * b = t * (nrm t b).2 := by
  unfold nrm
  by_cases h : b < 0
  · rw [if_pos h]
    have hp := cd_pos (a := -t) (b := -b) (by omega)
    obtain ⟨u, hu⟩ := cd_dvd_l (-t) (-b)
    obtain ⟨v, hv⟩ := cd_dvd_r (-t) (-b)
    generalize cd (-t) (-b) = g at *
    have e1 : -t / g = u := by rw [hu, Int.mul_ediv_cancel_left _ (by omega)]
    have e2 : -b / g = v := by rw [hv, Int.mul_ediv_cancel_left _ (by omega)]
    show -t / g * b = t * (-b / g)
    rw [e1, e2]
    have ht : t = -(g * u) := by omega
    have hb' : b = -(g * v) := by omega
    rw [ht, hb', Int.mul_neg, Int.neg_mul, Int.mul_left_comm, Int.mul_comm g u, Int.mul_assoc, Int.mul_left_comm u g v]
  · rw [if_neg h]
    have hp := cd_pos (a := t) (b := b) hb
    obtain ⟨u, hu⟩ := cd_dvd_l t b
    obtain ⟨v, hv⟩ := cd_dvd_r t b
    generalize cd t b = g at *
    have e1 : t / g = u := by rw [hu, Int.mul_ediv_cancel_left _ (by omega)]
    have e2 : b / g = v := by rw [hv, Int.mul_ediv_cancel_left _ (by omega)]
    show t / g * b = t * (b / g)
    rw [e1, e2, hu, hv, Int.mul_left_comm, Int.mul_assoc]
/-- two values in lowest terms that stand for one fraction are one -/
theorem low_unique {a b c d : Int} (h1 : Low a b) (h2 : Low c d) (h : a * d = c * b) : a = c ∧ b = d := by
  obtain ⟨hb, g1⟩ := h1
  obtain ⟨hd, g2⟩ := h2
  have c1 : Nat.gcd a.natAbs b.natAbs = 1 := by unfold cd at g1; omega
  have c2 : Nat.gcd c.natAbs d.natAbs = 1 := by unfold cd at g2; omega
  have hn : a.natAbs * d.natAbs = c.natAbs * b.natAbs := by rw [← Int.natAbs_mul, ← Int.natAbs_mul, h]
  have d1 : b.natAbs ∣ d.natAbs := by
    have : b.natAbs ∣ a.natAbs * d.natAbs := by rw [hn]; exact Nat.dvd_mul_left _ _
    exact (Nat.Coprime.symm (show Nat.Coprime a.natAbs b.natAbs from c1)).dvd_of_dvd_mul_left this
  have d2 : d.natAbs ∣ b.natAbs := by
    have : d.natAbs ∣ c.natAbs * b.natAbs := by rw [← hn]; exact Nat.dvd_mul_left _ _
    exact (Nat.Coprime.symm (show Nat.Coprime c.natAbs d.natAbs from c2)).dvd_of_dvd_mul_left this
  have e : b = d := by
    have := Nat.dvd_antisymm d1 d2
    omega
  subst e
  exact ⟨Int.eq_of_mul_eq_mul_right (by omega) h, rfl⟩
theorem nrm_scale {t b f : Int} (hb : b ≠ 0) (hf : f ≠ 0) : nrm (t * f) (b * f) = nrm t b := by
  have hbf : b * f ≠ 0 := Int.mul_ne_zero hb hf
  have l1 := nrm_low (t := t * f) hbf
  have l2 := nrm_low (t := t) hb
  have e1 := nrm_eq (t := t * f) hbf
  have e2 := nrm_eq (t := t) hb
  have u := low_unique l1 l2 (by
    generalize (nrm (t * f) (b * f)).1 = p at *
    generalize (nrm (t * f) (b * f)).2 = q at *
    generalize (nrm t b).1 = r at *
    generalize (nrm t b).2 = s at *
    -- p * (b f) = (t f) q ; r b = t s ; want p s = r q
    have hbf2 : p * b = t * q := by
      refine Int.eq_of_mul_eq_mul_right hf ?_
      rw [Int.mul_assoc, e1, Int.mul_assoc, Int.mul_comm f q, Int.mul_assoc]
    refine Int.eq_of_mul_eq_mul_right hb ?_
    calc p * s * b = (p * b) * s := by rw [Int.mul_assoc, Int.mul_comm s b, Int.mul_assoc]
      _ = (t * q) * s := by rw [hbf2]
      _ = (t * s) * q := by rw [Int.mul_assoc, Int.mul_comm q s, Int.mul_assoc]
      _ = r * b * q := by rw [e2]
      _ = r * q * b := by rw [Int.mul_assoc, Int.mul_comm b q, Int.mul_assoc])
  exact Prod.ext u.1 u.2
theorem nrm_one (t : Int) : nrm t 1 = (t, 1) := by
  have e : cd t 1 = 1 := by unfold cd; simp
  unfold nrm
  rw [if_neg (by omega), e]
  simp
end EL
namespace EL
open PySem PySem.Spec PyProof.Rows L2 He
/-! ### a def by its name -/
structure Dn (P : Program) (w : World) (K : PySem.W.Frag) (mg : Str → Option Value) (base : Heap) (CX : CXT) (k : Nat) (x : Str) (sp : Sp) : Prop where
  g : mg x = some (.ref (ga K x))
  kp : PySem.W.keepIn K (.ref (ga K x)) = true
  r : FnR P w K mg base CX k (ga K x) sp
section
variable {X : Cx} {CX : CXT} {k : Nat} {f : Addr} {sp : Sp} {E : L2.St → XK} {x : Str} {p pos : Pos} {e : Expr} {es : List Expr} {t : TA}
theorem run_fnRS {pins : List (Addr × Obj)} {σ : L2.St} {H : Hp} {s : Shared} {Q : VK} {us : List Value} {vs : List V} (F : FnR X.prog X.w X.K X.mg X.base CX k f sp) (hr : Room k X.A) (hx : PassesAt CX X σ (E σ))
    (I : Inv X pins σ H s) (r : Vals vs us) (h : sp vs H Q (E σ)) : wpAny (model X.prog X.w) X.A (call (.ref f) us) (EP X pins σ Q) X.xe s := by
  refine wpAny_call (codeAny_mono (F X.A X.stack s H us vs Q (E σ) hr I.env0 r h) fun r s' hq => ?_)
  cases r with
  | error e => exact hx pins H s e s' I hq
  | ok fl =>
    cases fl with
    | ret u => exact I.after hq
    | next => exact False.elim hq
    | brk => exact False.elim hq
    | cont => exact False.elim hq
theorem pe_fn (F : FnR X.prog X.w X.K X.mg X.base CX k f sp) (hr : Room k X.A) (hg : Gl X x) (hm : X.mg x = some (.ref f)) (hk : PySem.W.keepIn X.K (.ref f) = true) (hx : ∀ σ, PassesAt CX X σ (E σ))
    (ha : PA X (e :: es) t) (hdb : (x == ("__debug__" : Str)) = false := by decide) (he : starEach (e :: es) X.env = (false, eval e X.env) :: starEach es X.env := by rfl) (hpl : (backTo pos (starEach es X.env)).any (·.1) = false := by rfl) :
    PE X (.Call (.Name x p) (e :: es) [] pos) (tCallS sp E t) := by
  refine ⟨fun pins s σ H Q I h => ?_⟩
  refine wpAny_Call_Name_kw (ld_glob I hg hm ?_ hdb)
  refine PySem.W.callWith_K (h₀ := X.base) I.ok.mod.kin hk (thn (ha.run pos pins s σ H _ I h) fun us s1 ⟨vs, H1, I1, r, q⟩ => ⟨I1.kIn, ?_⟩) he hpl
  exact run_fnRS F hr (hx σ) I1 r q
/-- a call of a def that lets nothing out -/
theorem cl (D : Dn X.prog X.w X.K X.mg X.base CX0 k x sp) (hr : Room k X.A) (ha : PA X (e :: es) t) (hg : Gl X x := by rfl)
    (hdb : (x == ("__debug__" : Str)) = false := by decide) (he : starEach (e :: es) X.env = (false, eval e X.env) :: starEach es X.env := by rfl) (hpl : (backTo pos (starEach es X.env)).any (·.1) = false := by rfl) :
    PE X (.Call (.Name x p) (e :: es) [] pos) (tCallS sp (fun _ => E0) t) := pe_fn D.r hr hg D.g D.kp (fun _ _ _ _ _ _ _ h => h.elim) ha hdb he hpl
/-- a call of a def that may raise, where it raises nothing -/
theorem cl0 (D : Dn X.prog X.w X.K X.mg X.base (L2.CX X.prog X.w) k x sp) (hr : Room k X.A) (ha : PA X (e :: es) t) (hg : Gl X x := by rfl)
    (hdb : (x == ("__debug__" : Str)) = false := by decide) (he : starEach (e :: es) X.env = (false, eval e X.env) :: starEach es X.env := by rfl) (hpl : (backTo pos (starEach es X.env)).any (·.1) = false := by rfl) :
    PE X (.Call (.Name x p) (e :: es) [] pos) (tCallS sp (fun _ => E0) t) := pe_fn D.r hr hg D.g D.kp (fun σ pins H s e s' I h => passL pins σ H s e s' I h) ha hdb he hpl
/-- a call of a def that may raise -/
theorem clx {W : WX} (tk : Takes X W) (D : Dn X.prog X.w X.K X.mg X.base (L2.CX X.prog X.w) k x sp) (hr : Room k X.A) (ha : PA X (e :: es) t) (hg : Gl X x := by rfl)
    (hdb : (x == ("__debug__" : Str)) = false := by decide) (he : starEach (e :: es) X.env = (false, eval e X.env) :: starEach es X.env := by rfl) (hpl : (backTo pos (starEach es X.env)).any (·.1) = false := by rfl) :
    PE X (.Call (.Name x p) (e :: es) [] pos) (tCallS sp (WE W) t) := pe_fn D.r hr hg D.g D.kp (fun σ => passAt tk σ) ha hdb he hpl
/-- a module's name that holds a plain value -/
theorem pe_gv {v : V} {pos : Pos} (h : ∃ u, X.mg x = some u ∧ RelV v u) (hg : Gl X x := by rfl) (hd : (x == ("__debug__" : Str)) = false := by decide) : PE X (.Name x pos) (tC v) := by
  obtain ⟨u, h1, h2⟩ := h
  exact pe_glob hg h1 h2 hd
end
/-! ### own errors without an __init__ -/
structure XC (K : PySem.W.Frag) (mg : Str → Option Value) (x : Str) : Prop where
  g : mg x = some (.ref (ga K x))
  q : PySem.W.excIn K (ga K x) veBase "ValueError.__new__" = true
  k : PySem.W.keepIn K (.ref (ga K x)) = true
  b : PySem.W.subIn K (.ref (ga K x)) (.type "BaseException") = some true
  t : PySem.W.typeIn K (.ref (ga K x)) = some (.type "type")
/-- raise C('..') -/
theorem rs {X : Cx} {W : WX} {c m : Str} {j : Nat} {p p2 pos pos2 : Pos} (hc : X.calm = true) (tk : Takes X W) (x : XC X.K X.mg c) (hg : Gl X c) (hdb : (c == ("__debug__" : Str)) = false := by decide) :
    PS X (.Raise (some (.Call (.Name c p) [.Constant (.str m) j p2] [] pos)) none pos2) (fun _ σ H => W (.ref (ga X.K c)) none σ H) :=
  ps_raise hc tk (pmk_own PySem.F.excBase_ValueError x.q x.g x.k (raises_own x.b x.t) hg hdb)
/-! ### heaps -/
theorem same_upd {H : Hp} {p : Addr} {o : HO} (h : H p = none) : Same H (upd H p o) := fun b x e => by
  rw [upd_ne (ne_of_none e h)]
  exact e
theorem Same.seqT {K : PySem.W.Frag} {H H' : Hp} {a : Addr} {xs : List V} (e : Same H H') (h : SqT K H a xs) : SqT K H' a xs := by
  rcases h with (h | ⟨o, h⟩) | h
  · exact .inl (.inl (e _ _ h))
  · exact .inl (.inr ⟨o, e _ _ h⟩)
  · exact .inr h
/-- a new object: the heap behind is a letter -/
theorem newO {H : Hp} {o : HO} {Q : Addr → Hp → Prop} (h : ∀ p H', H p = none → Same H H' → H' p = some o → Q p H') : ∀ p, H p = none → Q p (upd H p o) := fun p hp => h p _ hp (same_upd hp) upd_same
theorem newV {H : Hp} {o : HO} {Q : V → Hp → Prop} (h : ∀ p H', H p = none → Same H H' → H' p = some o → Q (.ref p) H') : ∀ p, H p = none → Q (.ref p) (upd H p o) := fun p hp => h p _ hp (same_upd hp) upd_same
theorem ie {b : Bool} {A B : Prop} (h1 : b = true → A) (h2 : b = false → B) : if b = true then A else B := by
  cases b with
  | true => rw [if_pos rfl]; exact h1 rfl
  | false => rw [if_neg Bool.false_ne_true]; exact h2 rfl
theorem if_pos_of {b : Bool} {A B : Prop} (h : b = true) (a : A) : if b = true then A else B := by rw [if_pos h]; exact a
theorem if_neg_of {b : Bool} {A B : Prop} (h : b = false) (a : B) : if b = true then A else B := by rw [h, if_neg Bool.false_ne_true]; exact a
theorem small40 {n : Nat} (h : n ≤ 100000) : n ≤ sizeLine := Nat.le_trans h (by decide)
end EL
namespace EL
open PySem PySem.Spec PyProof.Rows L2 He
/-! ### the head: facts, defs and one more Bool -/
theorem xc_of {K : PySem.W.Frag} {mg : Str → Option Value} {x : Str} (g : mg x = some (.ref (ga K x))) (h : PySem.W.excIn K (ga K x) veBase "ValueError.__new__" = true ∧ PySem.W.keepIn K (.ref (ga K x)) = true ∧ PySem.W.subIn K (.ref (ga K x)) (.type "BaseException") = some true ∧
    PySem.W.typeIn K (.ref (ga K x)) = some (.type "type")) : XC K mg x := ⟨g, h.1, h.2.1, h.2.2.1, h.2.2.2⟩
theorem gv_int {mg : Str → Option Value} {x : Str} {i : Int} (h : ∃ t, mg x = some (.int i t)) : ∃ u, mg x = some u ∧ RelV (.int i) u := by
  obtain ⟨t, e⟩ := h
  exact ⟨_, e, t, rfl⟩
theorem gv_str {mg : Str → Option Value} {x z : Str} (h : ∃ t, mg x = some (.str z t)) : ∃ u, mg x = some u ∧ RelV (.str z) u := by
  obtain ⟨t, e⟩ := h
  exact ⟨_, e, t, rfl⟩
abbrev AlM : Type := AlD × Bool
def obsM (fa : List Fa) (fn : List DefD) (ex : PySem.W.Frag → Bool) (K : PySem.W.Frag) : AlM := (obsD fa fn K, ex K)
def obsMG (n : Nat) (fa : List Fa) (fn : List DefD) (ex : PySem.W.Frag → Bool) (g : Addr → Option Obj) : AlM := obsM fa fn ex (frG g (asD g n))
def valM (fn : List DefD) : AlM := (valD fn, true)
def hookM (n : Nat) (fa : List Fa) (fn : List DefD) (ex : PySem.W.Frag → Bool) : PySem.W.Hook where
  α := AlM
  obs := fun s => obsMG n fa fn ex s.heap.get?
  val := fun _ => valM fn
  says := fun _ h => ∃ K : PySem.W.Frag, K.In h ∧ SaysD fa fn K ∧ ex K = true
  of := fun _ _ e => ⟨_, frG_in, congrArg (fun z : AlM => z.1) e, congrArg (fun z : AlM => z.2) e⟩
  keeps := fun _ _ _ ⟨K, hK, c⟩ k => ⟨K, PySem.W.Frag.In.keeps hK k, c⟩
theorem obsMG_eq {n : Nat} {fa : List Fa} {fn : List DefD} {ex : PySem.W.Frag → Bool} {g : Addr → Option Obj} {s : Shared} (h : ∀ a, g a = s.heap.get? a) : obsMG n fa fn ex g = (hookM n fa fn ex).obs s := by
  have e : g = s.heap.get? := funext h
  rw [e] <;> rfl
end EL
namespace EL
open PySem PySem.Spec PyProof.Rows L2 He
/-! ### from a def's body to its Dn -/
section
variable {P : Program} {w : World} {K : PySem.W.Frag} {mg : Str → Option Value} {base : Heap} {CX : CXT} {k : Nat} {x : Str} {sp : Sp} {params : Arguments} {body : List Stmt} {scope : Scope} {dvs : List V} {fd : FuncData} {ps N : List Str}
theorem dnN (g : mg x = some (.ref (ga K x))) (F : FunD K x x params body scope [] [] (ga K x) fd)
    (hb : ∀ (kV doc pm : Value) (an : Option Addr) (cdv ct : Value) (us : List Value), us.length = ps.length → bindArgs (PySem.W.fnOf x x params body scope .none kV doc pm an cdv ct) ⟨us, []⟩ = pure (ps.zip us))
    (S : FnScope N ps scope) (len : ∀ vs H Q E, sp vs H Q E → vs.length = ps.length)
    (hbody : ∀ (cdv : Value) (A : Around) (outer : List Env) (s : Shared) (H : Hp) (vs : List V) (Q : VK) (E : XK), Room k (A.deeper (envOfC x scope s.heap.objs.size (ga K x) cdv)) → sp vs H Q E →
      ∃ t, PSs (cxOf CX P w K mg base N x scope (ga K x) cdv A outer s H E) body t ∧ t { nx := fun _ H' => Q .non H', rt := Q } (start N vs) H) : Dn P w K mg base CX (k + 1) x sp :=
  ⟨g, F.kp, ((F.ok S len hbody).raw (F.bindsN hb) .nil).imp fun vs H Q E h => by rw [List.append_nil]; exact h⟩
theorem Dn.mono {j : Nat} (D : Dn P w K mg base CX j x sp) (h : j ≤ k) : Dn P w K mg base CX k x sp := ⟨D.g, D.kp, D.r.mono h⟩
end
/-! ### data -/
inductive Kd where
  | non | bl | int | str | lst | tup | dct
  deriving DecidableEq
def kdN : Kd → String
  | .non => "NoneType"
  | .bl => "bool"
  | .int => "int"
  | .str => "str"
  | .lst => "list"
  | .tup => "tuple"
  | .dct => "dict"
def kd : PyData → Kd
  | .none => .non
  | .bool _ => .bl
  | .int _ => .int
  | .str _ => .str
  | .list _ => .lst
  | .tuple _ => .tup
  | .dict _ => .dct
def tyn (d : PyData) : String := kdN (kd d)
theorem SqL.ty {K : PySem.W.Frag} {H : Hp} {a : Addr} {xs : List V} (h : SqL K H a xs) : TyX K H (.ref a) (.type "list") := by
  rcases h with (h | ⟨o, h⟩) | ⟨o, its, n, h1, h2, _⟩
  · exact .base (.lst h)
  · exact .base (.frz h)
  · exact .kList h1 h2
theorem SqT.ty {K : PySem.W.Frag} {H : Hp} {a : Addr} {xs : List V} (h : SqT K H a xs) : TyX K H (.ref a) (.type "tuple") := by
  rcases h with (h | ⟨o, h⟩) | ⟨o, its, n, h1, h2, _⟩
  · exact .base (.tup h)
  · exact .fTuple h
  · exact .kTuple h1 h2
theorem Dp.ty {K : PySem.W.Frag} {H : Hp} {v : V} {d : PyData} (h : Dp K H v d) : TyX K H v (.type (tyn d)) := by
  cases h with
  | non => exact .base .non
  | bl b => exact .base (.bl b)
  | int i => exact .base (.int i)
  | str x => exact .base (.str x)
  | lst h _ => exact SqL.ty h
  | tup h _ => exact SqT.ty h
mutual
theorem Dp.same {K : PySem.W.Frag} {H H' : Hp} (s : Same H H') : ∀ {d : PyData} {v : V}, Dp K H v d → Dp K H' v d
  | _, _, .non => .non
  | _, _, .bl b => .bl b
  | _, _, .int i => .int i
  | _, _, .str x => .str x
  | _, _, .lst h a => .lst (s.seq h) (DpAll.same s a)
  | _, _, .tup h a => .tup (Same.seqT s h) (DpAll.same s a)
theorem DpAll.same {K : PySem.W.Frag} {H H' : Hp} (s : Same H H') : ∀ {ds : List PyData} {vs : List V}, DpAll K H vs ds → DpAll K H' vs ds
  | _, _, .nil => .nil
  | _, _, .cons a b => .cons (Dp.same s a) (DpAll.same s b)
end
theorem DpAll.length {K : PySem.W.Frag} {H : Hp} : ∀ {ds : List PyData} {vs : List V}, DpAll K H vs ds → vs.length = ds.length
  | _, _, .nil => rfl
  | _, _, .cons _ b => congrArg Nat.succ (DpAll.length b)
/-- isinstance's answers of data -/
def kIs (T k : Kd) : Bool := decide (k = T) || (decide (T = .int) && decide (k = .bl))
def isTy (T : Kd) (d : PyData) : Bool := kIs T (kd d)
theorem kit_k : ∀ T k : Kd, kitB (kdN k) (kdN T) = some (kIs T k) := by
  intro T k
  cases T <;> cases k <;> decide +kernel
theorem kit_d (K : PySem.W.Frag) (T : Kd) (d : PyData) : PySem.W.kitOne K (.type (tyn d)) (.type (kdN T)) = some (isTy T d) := kit_ty (kit_k T (kd d))
/-- a thing: data, or some object that is none of the five -/
inductive Th where
  | d (d : PyData)
  | o
def ThOk (K : PySem.W.Frag) (H : Hp) (v : V) : Th → Prop
  | .d d => Dp K H v d
  | .o => ∃ t, TyX K H v t ∧ ∀ T : Kd, PySem.W.kitOne K t (.type (kdN T)) = some false
def Th.is (T : Kd) : Th → Bool
  | Th.d x => isTy T x
  | Th.o => false
/-- its type and isinstance's answers -/
theorem ThOk.ty {K : PySem.W.Frag} {H : Hp} {v : V} {th : Th} (h : ThOk K H v th) : ∃ t, TyX K H v t ∧ ∀ T : Kd, PySem.W.kitOne K t (.type (kdN T)) = some (th.is T) := by
  cases th with
  | d d => exact ⟨_, Dp.ty h, fun T => kit_d K T d⟩
  | o => exact h
def isWholeT (th : Th) : Bool := th.is .int && !th.is .bl
def isWholeD : PyData → Bool
  | .int _ => true
  | _ => false
theorem isWholeT_d (d : PyData) : isWholeT (.d d) = isWholeD d := by cases d <;> rfl
def isValD : PyData → Bool
  | .tuple [.int a, .int b] => !decide (b < 1) && decide (cd a b = 1)
  | _ => false
def isValT : Th → Bool
  | Th.d x => isValD x
  | Th.o => false
end EL
namespace EL
open PySem PySem.Spec PyProof.Rows L2 He TL
/-! ### keywords alone -/
section
variable {K : PySem.W.Frag} {x qual : Str} {params : Arguments} {body : List Stmt} {scope : Scope} {dvs : List V} {kws : List (Str × V)} {f : Addr} {fd : FuncData} {ps : List Str}
theorem kbinds1 (F : FunD K x qual params body scope dvs kws f fd) (n : Nat) (ks : List Str) (g : {α : Type} → List α → List α → List α → List α) (hd : dvs ≠ [])
    (hrel : ∀ {vs ds zs : List V} {us its ws : List Value}, Vals vs us → Vals ds its → Vals zs ws → Vals (g vs ds zs) (g us its ws))
    (h : ∀ (T : Addr) (kV doc pm : Value) (an : Option Addr) (cdv ct : Value) (us its ws : List Value), us.length = n → its.length = dvs.length → ws.length = ks.length →
      ∃ k, bindArgs (PySem.W.fnOf x qual params body scope (.ref T) kV doc pm an cdv ct) ⟨us, ks.zip ws⟩ = seqItems? (.ref T) >>= k ∧ k (some its.toArray) = pure (ps.zip (g us its ws))) :
    ∃ its : List Value, KBn K fd ps n ks (fun us ws => g us its ws) (fun vs zs => g vs dvs zs) := by
  obtain ⟨oc, od, dV, kV, doc, pm, an, cdv, ct, osl, rfl, lk, hcd, hD, hK⟩ := F.ex
  rcases hD with ⟨e, _⟩ | ⟨_, T, o, its, m, rfl, lT, oT, rT⟩
  · exact absurd e hd
  · refine ⟨its, ⟨fun s us ws X h1 h2 => ?_, fun r rz => hrel r rT rz⟩⟩
    obtain ⟨k, e1, e2⟩ := h T kV doc pm an cdv ct us its ws h1 rT.length.symm h2
    refine BindsTo.of_looks fun M => ?_
    rw [e1]
    exact looks_items X lT oT (.of_pure e2)
end
section
variable {X : Cx} {CX : CXT} {k : Nat} {f : Addr} {fd : FuncData} {ps ks : List Str} {sp : Sp} {E : XK} {x : Str} {p pos : Pos} {kws : List Keyword} {tk : TA} {g : List Value → List Value → List Value} {gV : List V → List V → List V}
/-- f(k = v, ..) -/
theorem pe_callN0 (F : FnOk X.prog X.w X.K X.mg X.base CX k f fd ps sp) (hr : Room k X.A) (hg : Gl X x) (hm : X.mg x = some (.ref f)) (hk : PySem.W.keepIn X.K (.ref f) = true) (hb : KBn X.K fd ps 0 ks g gV) (hx : Passes CX X E)
    (hkw : PK X kws tk) (hall : (backToKw pos (keywordEach kws X.env)).all (·.1.isSome) = true := by rfl) (hks : (backToKw pos (keywordEach kws X.env)).filterMap (·.1) = ks := by rfl)
    (hdb : (x == ("__debug__" : Str)) = false := by decide) (hpl : ((backTo pos (starEach [] X.env)).any (·.1) || (backToKw pos (keywordEach kws X.env)).any (·.1.isNone)) = false := by rfl) :
    PE X (.Call (.Name x p) [] kws pos) (tCallN 0 ks.length sp gV E tNil tk) := by
  refine ⟨fun pins s σ H Q I h => ?_⟩
  refine wpAny_Call_Name_kw (ld_glob I hg hm ?_ hdb)
  refine PySem.W.callWith_KW0 (h₀ := X.base) I.ok.mod.kin hk hall ?_ hpl
  refine thn (hkw.run pos pins s σ H _ I h) fun ws s2 ⟨zs, H2, I2, rz, l1, l2, q2⟩ => ⟨I2.kIn, ?_⟩
  rw [hks]
  exact run_fnN (us := []) (vs := []) F hr hb hx I2 .nil rz rfl l2 q2
end
/-! ### texts of numbers -/
theorem str_nil (x : Str) : Str.empty ++ x = x := ext_tl (by rw [tl_append]; rfl)
theorem natDigits_len {n k : Nat} (hk : 0 < k) (h : n < 10 ^ k) : (numL n).length ≤ k := numL_len hk h
/-- the signs of an int -/
def intL (a : Int) : List Nat := if a < 0 then 45 :: numL a.natAbs else numL a.natAbs
theorem tl_int (a : Int) : tl (Str.ofString (toString a)) = intL a := by
  cases a with
  | ofNat n => exact tl_num n
  | negSucc n =>
    unfold intL
    rw [if_pos (by omega), tl_ofString]
    show ("-" ++ Nat.repr (n + 1)).toList.map Char.toNat = 45 :: numL (n + 1)
    rw [String.toList_append, List.map_append, Nat.toList_repr]
    rfl
theorem numL_len1000 {n : Nat} (h : n < 2 ^ 1000) : (numL n).length ≤ 1000 := numL_len (by decide) (Nat.lt_of_lt_of_le h (Nat.pow_le_pow_left (by decide) _))
theorem len_int {a : Int} (h : a.natAbs < 2 ^ 1000) : (Str.ofString (toString a)).length ≤ 1001 := by
  rw [len_tl, tl_int]
  have := numL_len1000 h
  unfold intL
  split
  · rw [List.length_cons]
    omega
  · omega
/-- what a text of digits is worth -/
def isDig (c : Nat) : Bool := decide (48 ≤ c) && decide (c ≤ 57)
def rdD (cs : List Nat) : Option Nat := if (1 ≤ cs.length ∧ cs.length ≤ 40) ∧ cs.all isDig = true ∧ ¬ (1 < cs.length ∧ cs.head? = some 48) then some (NumText.digitsVal cs) else none
def optV : Option Nat → V
  | none => .non
  | some n => .int n
/-- a text as value reads it -/
def rdP (cs : List Nat) : List Nat × Option (List Nat) := match par [47] [] cs with
  | none => (cs, none)
  | some (a, b) => (a, some b)
def rdB : Option (List Nat) → Option Nat
  | none => some 1
  | some u => match rdD u with
    | some b => if 2 ≤ b then some b else none
    | none => none
def rdF (below : Bool) : Option Nat → Option Nat → Option (Int × Int)
  | some b, some t => if (below && decide (t = 0)) || decide (Nat.gcd t b ≠ 1) then none else some (if below then -(t : Int) else (t : Int), (b : Int))
  | _, _ => none
def rdV (cs : List Nat) : Option (Int × Int) :=
  rdF (decide (cs.take 1 = [45])) (rdB (rdP (if decide (cs.take 1 = [45]) = true then cs.drop 1 else cs)).2) (rdD (rdP (if decide (cs.take 1 = [45]) = true then cs.drop 1 else cs)).1)
theorem par_split {s : Nat} : ∀ (cs acc a b : List Nat), par [s] acc cs = some (a, b) → acc ++ cs = a ++ s :: b
  | [], acc, a, b, h => by simp [par] at h
  | c :: r, acc, a, b, h => by
    by_cases e : c = s
    · subst e
      rw [par_hit (by simp [pre])] at h
      injection h with h
      injection h with h1 h2
      rw [← h1, ← h2]
      rfl
    · rw [par_miss (pre_of_head [] r e)] at h
      have := par_split r (acc ++ [c]) a b h
      rw [← this]
      simp
end EL
namespace EL
open PySem PySem.Spec PyProof.Rows L2 He TL
theorem tl_cut_to (z : Str) (k : Nat) : tl (cutS z none (some (k : Int))) = (tl z).take k := by
  show ((tl z).drop (HT.sIx z.length 0 none)).take (HT.sIx z.length z.length (some (k : Int)) - HT.sIx z.length 0 none) = (tl z).take k
  rw [HT.sIx_none, HT.sIx_nat, List.drop_zero, Nat.sub_zero, len_tl]
  by_cases h : k ≤ (tl z).length
  · rw [Nat.min_eq_left h]
  · rw [Nat.min_eq_right (by omega), List.take_length, List.take_of_length_le (by omega)]
theorem tl_cut_from (z : Str) (k : Nat) : tl (cutS z (some (k : Int)) none) = (tl z).drop k := by
  show ((tl z).drop (HT.sIx z.length 0 (some (k : Int)))).take (HT.sIx z.length z.length none - HT.sIx z.length 0 (some (k : Int))) = (tl z).drop k
  rw [HT.sIx_none, HT.sIx_nat, len_tl]
  by_cases h : k ≤ (tl z).length
  · rw [Nat.min_eq_left h, List.take_of_length_le (by rw [List.length_drop]; omega)]
  · rw [Nat.min_eq_right (by omega), List.drop_length, List.drop_of_length_le (by omega), List.take_nil]
theorem tl_digits : tl ("0123456789" : Str) = [48, 49, 50, 51, 52, 53, 54, 55, 56, 57] := by decide +kernel
theorem mem_digits (c : Nat) : decide (c ∈ tl ("0123456789" : Str)) = isDig c := by
  rw [tl_digits]
  unfold isDig
  rw [← Bool.decide_and]
  refine decide_eq_decide.mpr ?_
  simp only [List.mem_cons, List.not_mem_nil, or_false]
  omega
theorem str_one {c : Nat} {y : Str} {d : Nat} (hy : tl y = [d]) : decide (V.str ⟨#[c]⟩ = V.str y) = decide (c = d) := by
  refine decide_eq_decide.mpr ⟨fun e => ?_, fun e => ?_⟩
  · have e1 : (⟨#[c]⟩ : Str) = y := by injection e
    rw [← e1] at hy
    have h2 : [c] = [d] := hy
    injection h2
  · have e1 : (⟨#[c]⟩ : Str) = y := ext_tl (by rw [hy, e])
    rw [e1]
theorem allDigits_of {cs : List Nat} (h : cs.all isDig = true) : NumText.AllDigits cs := fun c hc => by
  have := List.all_eq_true.mp h c hc
  unfold isDig at this
  rw [Bool.and_eq_true, decide_eq_true_eq, decide_eq_true_eq] at this
  exact this
theorem str_eq_tl {x y : Str} : decide (V.str x = V.str y) = decide (tl x = tl y) := decide_eq_decide.mpr ⟨fun e => by injection e with e; rw [e], fun e => by rw [ext_tl e]⟩
/-- a statement, then the rest, with a word between them -/
def tMid (t u : TS) : TS := fun D σ H => ∃ Mid : L2.St → Hp → Prop, t { D with nx := Mid } σ H ∧ ∀ σ' H', Mid σ' H' → u D σ' H'
theorem pss_mid {X : Cx} {st : Stmt} {rest : List Stmt} {t u : TS} (h1 : PS X st t) (h2 : PSs X rest u) : PSs X (st :: rest) (tMid t u) := by
  refine ⟨fun pins s σ H D I h => ?_⟩
  obtain ⟨Mid, hm, hu⟩ := h
  refine wpAny_execs_cons (thn (h1.run pins s σ H { D with nx := Mid } I hm) fun f s1 q => ?_)
  cases f with
  | next =>
    obtain ⟨σ', H', I', q⟩ := q
    exact h2.run pins s1 σ' H' D I' (hu σ' H' q)
  | ret v => exact q
  | brk => exact q
  | cont => exact q
end EL
namespace EL
open PySem PySem.Spec PyProof.Rows L2 He TL
/-! ### more facts of K, as Bools -/
theorem exG {l : List Bool} {b : Bool} (m : l.all id = true) (i : Nat) (h : l[i]? = some b) : b = true := List.all_eq_true.mp m b (List.mem_of_getElem? h)
def excCB (K : PySem.W.Frag) (D : Addr) : Bool := eqO (PySem.W.findIn K (.ref D) "__getattribute__") (some (some (.builtin "BaseException.__getattribute__"))) && (eqO (PySem.W.findIn K (.ref D) "__getattr__") (some none) &&
  (decide (PySem.W.subIn K (.ref D) (.type "BaseException") = some true) && (PySem.W.hasDictIn K D && (eqO (PySem.W.findIn K (.ref D) "__class__") (some (some (.builtin "object.__class__"))) &&
  (eqO (PySem.W.specialIn K (.builtin "object.__class__") "__get__") (some (some (.builtin "getset_descriptor.__get__"))) && (decide (PySem.W.takesIn K (.builtin "object.__class__") = some true) && decide (PySem.W.mroIn K D (.type "object") = some true)))))))
theorem excCB_ok {K : PySem.W.Frag} {D : Addr} (h : excCB K D = true) : ExcC K D := by
  obtain ⟨h1, h⟩ := ba h
  obtain ⟨h2, h⟩ := ba h
  obtain ⟨h3, h⟩ := ba h
  obtain ⟨h4, h⟩ := ba h
  obtain ⟨h5, h⟩ := ba h
  obtain ⟨h6, h⟩ := ba h
  obtain ⟨h7, h8⟩ := ba h
  exact ⟨eqO_ok h1, eqO_ok h2, of_decide_eq_true h3, h4, eqO_ok h5, eqO_ok h6, of_decide_eq_true h7, of_decide_eq_true h8⟩
/-- isinstance(e, c), e the exception of the class at D that the suite holds -/
theorem call_isX {X : Cx} {a : Addr} {oe : Obj} {pn : List (Addr × Obj)} {cls : Value} {d : Option Addr} (D : Addr) (C : ExcC X.K D) (hz : Zc cls d oe) (hf : ∃ vs, oe.data = .fields vs) :
    CallR (X.suite a ((a, oe) :: pn)) (.builtin "isinstance") (fun xs H Q => cls = .ref D ∧ d = none ∧ rIsE X.K D a xs H Q) := by
  intro pins s σ H xs us Q I r h
  obtain ⟨rfl, rfl, h⟩ := h
  exact call_isE C hz hf pins s σ H xs us Q I r h
/-! ### the law's source of draws -/
/-- the list [cells, place, digits, state] -/
def Src (H : Hp) (p l : Addr) : Prop := ∃ (ns : List Int) (i : Nat) (c r : Int), H p = some (.lst [.ref l, .int i, .int c, .int r]) ∧ H l = some (.lst (ns.map V.int)) ∧ 0 ≤ c ∧ 0 ≤ r ∧ r < 2147483647
/-- all but p is as it was -/
def But (p : Addr) (H H' : Hp) : Prop := ∀ b o, H b = some o → b ≠ p → H' b = some o
theorem But.refl (p : Addr) (H : Hp) : But p H H := fun _ _ h _ => h
theorem But.trans {p : Addr} {H H1 H2 : Hp} (a : But p H H1) (b : But p H1 H2) : But p H H2 := fun c o h n => b c o (a c o h n) n
theorem But.of {p : Addr} {H H' : Hp} (s : Same H H') : But p H H' := fun b o h _ => s b o h
theorem but_upd {p : Addr} {H : Hp} {o : HO} : But p H (upd H p o) := fun b x h n => by rw [upd_ne n]; exact h
theorem Src.same {H H' : Hp} {p l : Addr} (s : Same H H') (h : Src H p l) : Src H' p l := by
  obtain ⟨ns, i, c, r, h1, h2, h3⟩ := h
  exact ⟨ns, i, c, r, s _ _ h1, s _ _ h2, h3⟩
theorem Src.lst {H : Hp} {p l : Addr} (h : Src H p l) : ∃ xs, H p = some (.lst xs) := by
  obtain ⟨ns, i, c, r, h1, _⟩ := h
  exact ⟨_, h1⟩
theorem Src.lst2 {H : Hp} {p l : Addr} (h : Src H p l) : ∃ xs, H l = some (.lst xs) := by
  obtain ⟨ns, i, c, r, h1, h2, _⟩ := h
  exact ⟨_, h2⟩
theorem Src.ne {H : Hp} {p l : Addr} (h : Src H p l) : l ≠ p := fun e => by
  obtain ⟨ns, i, c, r, h1, h2, _⟩ := h
  subst e
  rw [h1] at h2
  injection h2 with h2
  injection h2 with h2
  cases ns with
  | nil => cases h2
  | cons x r => injection h2 with h2; cases h2
/-- another thing changes -/
theorem Src.but {H H' : Hp} {p l x : Addr} (s : But x H H') (h : Src H p l) (h1 : p ≠ x) (h2 : l ≠ x) : Src H' p l := by
  obtain ⟨ns, i, c, r, k1, k2, h3⟩ := h
  exact ⟨ns, i, c, r, s _ _ k1 h1, s _ _ k2 h2, h3⟩
theorem But.seqT {K : PySem.W.Frag} {p a : Addr} {H H' : Hp} {xs : List V} (s : But p H H') (hp : ∃ ys, H p = some (.lst ys)) (h : SqT K H a xs) : SqT K H' a xs := by
  obtain ⟨ys, hp⟩ := hp
  rcases h with (h | ⟨o, h⟩) | h
  · exact .inl (.inl (s _ _ h (ne_of h hp (by intro z; cases z))))
  · exact .inl (.inr ⟨o, s _ _ h (ne_of h hp (by intro z; cases z))⟩)
  · exact .inr h
end EL
namespace EL
open PySem PySem.Spec PyProof.Rows L2 He TL
/-! ### a written value is read back -/
def txtV (a b : Int) : Str := if b = 1 then (toString a : String) else ((toString a : String) : Str) ++ "/" ++ ((toString b : String) : Str)
theorem numL_head {n : Nat} (h : 1 ≤ n) : (numL n).head? ≠ some 48 := by
  induction n using Nat.strongRecOn with
  | _ n ih =>
    by_cases h10 : n < 10
    · rw [numL_lt h10]
      intro e
      have e2 : 48 + n = 48 := Option.some.inj e
      omega
    · rw [numL_step (by omega)]
      have hh := ih (n / 10) (by omega) (by omega)
      cases hc : numL (n / 10) with
      | nil => exact absurd hc (numL_ne _)
      | cons x r =>
        rw [hc] at hh
        exact hh
theorem rdD_num {n : Nat} (h : n < 10 ^ 40) : rdD (numL n) = some n := by
  unfold rdD
  have hl : (numL n).length ≤ 40 := numL_len (by decide) h
  have h1 : 1 ≤ (numL n).length := by
    cases hc : numL n with
    | nil => exact absurd hc (numL_ne _)
    | cons x r => simp
  rw [if_pos, numL_val]
  refine ⟨⟨h1, hl⟩, ?_, ?_⟩
  · refine List.all_eq_true.mpr fun c hc => ?_
    have := numL_digits n c hc
    unfold isDig
    rw [Bool.and_eq_true, decide_eq_true_eq, decide_eq_true_eq]
    exact this
  · rintro ⟨h2, h3⟩
    by_cases h0 : n < 10
    · rw [numL_lt h0] at h2
      exact absurd h2 (Nat.lt_irrefl 1)
    · exact numL_head (by omega) h3
theorem tl_txtV (a b : Int) : tl (txtV a b) = if b = 1 then intL a else intL a ++ 47 :: intL b := by
  unfold txtV
  by_cases h : b = 1
  · rw [if_pos h, if_pos h]
    exact tl_int a
  · rw [if_neg h, if_neg h, tl_append, tl_append, tl_int, tl_int, show tl ("/" : Str) = [47] by decide +kernel, List.append_assoc]
    rfl
theorem numL_first (n : Nat) : (numL n).take 1 ≠ [45] := fun e => by
  have : (45 : Nat) ∈ (numL n).take 1 := by rw [e]; simp
  exact numL_free (n := n) (s := 45) (.inl (by decide)) (List.mem_of_mem_take this)
theorem numL_app_first (n : Nat) (r : List Nat) : (numL n ++ r).take 1 ≠ [45] := fun e => by
  cases hc : numL n with
  | nil => exact absurd hc (numL_ne _)
  | cons x q =>
    rw [hc] at e
    have := numL_first n
    rw [hc] at this
    exact this e
theorem rdP_num (n : Nat) : rdP (numL n) = (numL n, none) := by
  unfold rdP
  rw [par_none1 (numL_free (.inl (by decide)))]
theorem rdP_two (n m : Nat) : rdP (numL n ++ 47 :: numL m) = (numL n, some (numL m)) := by
  unfold rdP
  rw [show numL n ++ 47 :: numL m = numL n ++ ([47] ++ numL m) from rfl, par_part1 (numL_free (.inl (by decide)))]
  rfl
theorem rdV_txt {a b : Int} (h : Low a b) (ha : a.natAbs < 10 ^ 40) (hb : b.natAbs < 10 ^ 40) : rdV (tl (txtV a b)) = some (a, b) := by
  obtain ⟨hb0, hg⟩ := h
  have hg' : Nat.gcd a.natAbs b.natAbs = 1 := by unfold cd at hg; omega
  have hbL : intL b = numL b.natAbs := by
    unfold intL
    rw [if_neg (by omega)]
  -- the body behind the sign, by its parts
  have body : ∀ cs : List Nat, cs = (if b = 1 then numL a.natAbs else numL a.natAbs ++ 47 :: numL b.natAbs) → rdB (rdP cs).2 = some b.natAbs ∧ rdD (rdP cs).1 = some a.natAbs := by
    intro cs hcs
    by_cases h1 : b = 1
    · rw [if_pos h1] at hcs
      rw [hcs, rdP_num]
      refine ⟨?_, rdD_num ha⟩
      rw [h1]
      rfl
    · rw [if_neg h1] at hcs
      rw [hcs, rdP_two]
      refine ⟨?_, rdD_num ha⟩
      simp only [rdB, rdD_num hb]
      exact if_pos (by omega)
  rw [tl_txtV]
  unfold rdV
  by_cases hn : a < 0
  · have e : (if b = 1 then intL a else intL a ++ 47 :: intL b) = 45 :: (if b = 1 then numL a.natAbs else numL a.natAbs ++ 47 :: numL b.natAbs) := by
      unfold intL
      rw [if_pos hn, if_neg (show ¬ b < 0 by omega)]
      split <;> rfl
    rw [e]
    obtain ⟨e1, e2⟩ := body _ rfl
    rw [show decide ((45 :: (if b = 1 then numL a.natAbs else numL a.natAbs ++ 47 :: numL b.natAbs)).take 1 = [45]) = true from rfl, if_pos rfl, List.drop_one, List.tail_cons, e1, e2]
    show (if (true && decide (a.natAbs = 0) || decide (Nat.gcd a.natAbs b.natAbs ≠ 1)) = true then none else some (-(a.natAbs : Int), (b.natAbs : Int))) = _
    rw [if_neg]
    · rw [show -(a.natAbs : Int) = a by omega, show (b.natAbs : Int) = b by omega]
    · rw [decide_eq_false (show ¬ a.natAbs = 0 by omega), Bool.and_false, Bool.false_or]
      exact fun z => of_decide_eq_true z hg'
  · have e : (if b = 1 then intL a else intL a ++ 47 :: intL b) = (if b = 1 then numL a.natAbs else numL a.natAbs ++ 47 :: numL b.natAbs) := by
      unfold intL
      rw [if_neg hn, if_neg (show ¬ b < 0 by omega)]
    rw [e]
    have hf : (if b = 1 then numL a.natAbs else numL a.natAbs ++ 47 :: numL b.natAbs).take 1 ≠ [45] := by
      split
      · exact numL_first _
      · exact numL_app_first _ _
    obtain ⟨e1, e2⟩ := body _ rfl
    rw [decide_eq_false hf, if_neg Bool.false_ne_true, e1, e2]
    show (if (false && decide (a.natAbs = 0) || decide (Nat.gcd a.natAbs b.natAbs ≠ 1)) = true then none else some ((a.natAbs : Int), (b.natAbs : Int))) = _
    rw [if_neg]
    · rw [show (a.natAbs : Int) = a by omega, show (b.natAbs : Int) = b by omega]
    · rw [Bool.false_and, Bool.false_or]
      exact fun z => of_decide_eq_true z hg'
theorem nrm_abs (t b : Int) : (nrm t b).1.natAbs ≤ t.natAbs ∧ (nrm t b).2.natAbs ≤ b.natAbs := by
  have k : ∀ x g : Int, g ∣ x → (x / g).natAbs ≤ x.natAbs := fun x g h => by
    rw [Int.natAbs_ediv_of_dvd h]
    exact Nat.div_le_self _ _
  unfold nrm
  split
  · have h1 := k (-t) _ (cd_dvd_l (-t) (-b))
    have h2 := k (-b) _ (cd_dvd_r (-t) (-b))
    rw [Int.natAbs_neg] at h1 h2
    exact ⟨h1, h2⟩
  · exact ⟨k t _ (cd_dvd_l t b), k b _ (cd_dvd_r t b)⟩
theorem nrm_neg {t b : Int} (h : b < 0) : nrm (-t) (-b) = nrm t b := by
  unfold nrm
  rw [if_pos h, if_neg (by omega)]
end EL
namespace EL
open PySem PySem.Spec PyProof.Rows L2 He TL
/-! ### texts of values, the other way about -/
theorem digitsVal_snoc' (cs : List Nat) (d : Nat) : NumText.digitsVal (cs ++ [d]) = NumText.digitsVal cs * 10 + (d - 48) := by
  unfold NumText.digitsVal
  rw [List.foldl_append]
  rfl
theorem snoc_of {cs : List Nat} (h : cs ≠ []) : ∃ i d, cs = i ++ [d] := ⟨cs.dropLast, cs.getLast h, (List.dropLast_concat_getLast h).symm⟩
theorem numL_back : ∀ (k : Nat) (cs : List Nat), cs.length = k → cs ≠ [] → cs.all isDig = true → ¬ (1 < cs.length ∧ cs.head? = some 48) → numL (NumText.digitsVal cs) = cs ∧ (cs.head? ≠ some 48 → 1 ≤ NumText.digitsVal cs)
  | 0, cs, hk, hne, _, _ => absurd (List.length_eq_zero_iff.mp hk) hne
  | k + 1, cs, hk, hne, ha, hz => by
    obtain ⟨i, d, rfl⟩ := snoc_of hne
    rw [List.all_append, Bool.and_eq_true] at ha
    have hd : 48 ≤ d ∧ d ≤ 57 := by
      have := ha.2
      simp only [List.all_cons, List.all_nil, Bool.and_true, isDig, Bool.and_eq_true, decide_eq_true_eq] at this
      exact this
    rw [digitsVal_snoc']
    cases hi : i with
    | nil =>
      have e : NumText.digitsVal [] = 0 := rfl
      rw [e, Nat.zero_mul, Nat.zero_add, numL_lt (by omega)]
      refine ⟨?_, fun hh => ?_⟩
      · show [48 + (d - 48)] = [d]
        rw [show 48 + (d - 48) = d by omega]
      · have : d ≠ 48 := fun z => hh (by rw [z]; rfl)
        omega
    | cons x r =>
      have hl : i.length = k := by
        rw [List.length_append, List.length_singleton] at hk
        omega
      have hh : (i ++ [d]).head? = i.head? := by rw [hi]; rfl
      have h48 : i.head? ≠ some 48 := fun z => hz ⟨by rw [List.length_append, hi]; simp, by rw [hh]; exact z⟩
      obtain ⟨e1, e2⟩ := numL_back k i hl (by rw [hi]; simp) ha.1 (fun z => h48 z.2)
      have e3 := e2 h48
      rw [← hi]
      refine ⟨?_, fun _ => by omega⟩
      rw [numL_step (by omega), show (NumText.digitsVal i * 10 + (d - 48)) / 10 = NumText.digitsVal i by omega, show (NumText.digitsVal i * 10 + (d - 48)) % 10 = d - 48 by omega, e1, show 48 + (d - 48) = d by omega]
theorem rdD_inv {cs : List Nat} {n : Nat} (h : rdD cs = some n) : cs = numL n ∧ n < 10 ^ 40 := by
  unfold rdD at h
  split at h
  · rename_i c
    injection h with h
    have hne : cs ≠ [] := fun e => by rw [e] at c; exact absurd c.1.1 (by decide)
    have e := (numL_back cs.length cs rfl hne c.2.1 c.2.2).1
    rw [h] at e
    refine ⟨e.symm, ?_⟩
    have hl : (numL n).length ≤ 40 := by rw [e]; exact c.1.2
    exact Nat.lt_of_not_le fun hge => by
      have : ∀ (k m : Nat), 10 ^ k ≤ m → k + 1 ≤ (numL m).length := by
        intro k
        induction k with
        | zero =>
          intro m _
          cases hm : numL m with
          | nil => exact absurd hm (numL_ne _)
          | cons x r => simp
        | succ k ih =>
          intro m hm
          have h10 : 10 ≤ m := Nat.le_trans (by rw [Nat.pow_succ]; have : 0 < 10 ^ k := Nat.pow_pos (by decide); omega) hm
          rw [numL_step h10, List.length_append]
          have := ih (m / 10) ((Nat.le_div_iff_mul_le (by decide)).mpr (by rw [Nat.pow_succ] at hm; exact hm))
          simp only [List.length_singleton]
          omega
      have := this 40 n hge
      omega
  · cases h
theorem spl_par {s : Nat} : ∀ (cs acc : List Nat), spl [s] 0 acc cs = (match par [s] acc cs with | none => [acc ++ cs] | some (a, b) => a :: spl [s] 0 [] b)
  | [], acc => by
    rw [spl_nil]
    simp [par]
  | c :: r, acc => by
    by_cases e : c = s
    · subst e
      rw [spl_hit (by simp [pre]), par_hit (by simp [pre])]
      rfl
    · rw [spl_miss (pre_of_head [] r e), par_miss (pre_of_head [] r e), spl_par r (acc ++ [c])]
      cases par [s] (acc ++ [c]) r with
      | none => simp
      | some ab => rfl
theorem par_some {s : Nat} : ∀ (cs acc : List Nat), s ∈ cs → ∃ a b, par [s] acc cs = some (a, b)
  | [], _, h => by cases h
  | c :: r, acc, h => by
    by_cases e : c = s
    · subst e
      exact ⟨acc, r, by rw [par_hit (by simp [pre])]; rfl⟩
    · rw [par_miss (pre_of_head [] r e)]
      exact par_some r _ (by
        rcases List.mem_cons.mp h with z | z
        · exact absurd z.symm e
        · exact z)
theorem rdD_free {cs : List Nat} (h : 47 ∈ cs) : rdD cs = none := by
  unfold rdD
  refine if_neg fun c => ?_
  have := List.all_eq_true.mp c.2.1 47 h
  exact absurd this (by decide)
/-- what read_value takes, text_of writes -/
theorem rdV_inv {cs : List Nat} {a b : Int} (h : rdV cs = some (a, b)) : tl (txtV a b) = cs ∧ Low a b ∧ a.natAbs < 10 ^ 40 ∧ b.natAbs < 10 ^ 40 := by
  unfold rdV at h
  generalize hbd : (if decide (cs.take 1 = [45]) = true then cs.drop 1 else cs) = bd at h
  cases hB : rdB (rdP bd).2 with
  | none =>
    rw [hB] at h
    cases h
  | some n =>
    cases hD : rdD (rdP bd).1 with
    | none =>
      rw [hB, hD] at h
      cases h
    | some m =>
      rw [hB, hD] at h
      generalize hbl : decide (cs.take 1 = [45]) = below at *
      have h' : (if (below && decide (m = 0) || decide (Nat.gcd m n ≠ 1)) = true then none else some (if below then -(m : Int) else (m : Int), (n : Int))) = some (a, b) := h
      split at h'
      · cases h'
      · rename_i c
        injection h' with h'
        injection h' with ea eb
        have hg : Nat.gcd m n = 1 := by
          cases hd : decide (Nat.gcd m n ≠ 1) with
          | true => rw [hd, Bool.or_true] at c; exact absurd rfl c
          | false => exact Decidable.not_not.mp (of_decide_eq_false hd)
        have hbz : below = true → m ≠ 0 := fun hb z => by
          rw [hb, z] at c
          exact c rfl
        obtain ⟨e1, m40⟩ := rdD_inv hD
        -- the body
        have body : bd = (if n = 1 then numL m else numL m ++ 47 :: numL n) ∧ 1 ≤ n ∧ n < 10 ^ 40 := by
          unfold rdP at hB e1
          cases hp : par [47] [] bd with
          | none =>
            rw [hp] at hB e1
            have en : 1 = n := Option.some.inj hB
            rw [if_pos en.symm]
            exact ⟨e1, by omega, by rw [← en]; decide⟩
          | some xy =>
            obtain ⟨x, y⟩ := xy
            rw [hp] at hB e1
            have hB' : (match rdD y with | some b => if 2 ≤ b then some b else none | none => none) = some n := hB
            cases hy : rdD y with
            | none =>
              rw [hy] at hB'
              cases hB'
            | some k =>
              rw [hy] at hB'
              have hB2 : (if 2 ≤ k then some k else none) = some n := hB'
              split at hB2
              · injection hB2 with hk
                subst hk
                obtain ⟨e2, k40⟩ := rdD_inv hy
                rw [if_neg (by omega)]
                have e3 : x = numL m := e1
                refine ⟨?_, by omega, k40⟩
                rw [← e3, ← e2]
                exact (par_split _ _ _ _ hp)
              · cases hB2
        obtain ⟨hbody, hn1, n40⟩ := body
        have hcs : cs = if below = true then 45 :: bd else bd := by
          cases below with
          | true =>
            have ht := of_decide_eq_true hbl
            rw [if_pos rfl] at hbd ⊢
            rw [← hbd, ← List.singleton_append, ← ht, List.take_append_drop]
          | false =>
            rw [if_neg Bool.false_ne_true] at hbd ⊢
            exact hbd
        have ebn : b.natAbs = n := by omega
        have eam : a.natAbs = m := by
          rw [← ea]
          split <;> omega
        refine ⟨?_, ⟨by omega, ?_⟩, by omega, by omega⟩
        · rw [tl_txtV, hcs, hbody]
          have hb1 : (b = 1) ↔ (n = 1) := by omega
          have hib : intL b = numL n := by
            unfold intL
            rw [if_neg (by omega), ebn]
          have hia : intL a = if below = true then 45 :: numL m else numL m := by
            unfold intL
            rw [eam]
            cases hbe : below with
            | true =>
              rw [hbe] at ea hbz
              have hm := hbz rfl
              rw [if_pos rfl] at ea ⊢
              rw [if_pos (by omega)]
            | false =>
              rw [hbe] at ea
              rw [if_neg Bool.false_ne_true] at ea ⊢
              rw [if_neg (by omega)]
          rw [hia, hib]
          by_cases h1 : n = 1
          · rw [if_pos h1, if_pos (hb1.mpr h1)]
          · rw [if_neg h1, if_neg (fun z => h1 (hb1.mp z))]
            cases below <;> rfl
        · unfold cd
          rw [eam, ebn, hg]
          rfl
theorem call_str_bool {X : Cx} : CallR X (.type "str") (fun xs H Q => ∃ b : Bool, xs = [.bl b] ∧ Q (.str (if b then "True" else "False")) H) := by
  intro pins s σ H xs us Q I r h
  obtain ⟨b, rfl, q⟩ := h
  obtain ⟨u, rfl, ru⟩ := vals1 r
  cases ru
  exact PySem.P.str_of_bool ⟨.str _, H, I.tok _, ⟨_, rfl⟩, q⟩
end EL
namespace EL
open PySem PySem.Spec PyProof.Rows L2 He TL ClX
/-! ### the head with defs at any address -/
def fnWA (K : PySem.W.Frag) (a : Addr) : FnW := match K.lookup a with
  | some ⟨_, _, .func fd, _⟩ => some (fd.name, fd.qualname, fd.params, fd.body, fd.scope, fd.globals, fd.closure, fd.builtins)
  | _ => none
structure DefE where
  ad : PySem.W.Frag → Addr
  name : Str
  qual : Str
  params : Arguments
  body : List Stmt
  scope : Scope
  dfl : List Dv := []
def DefE.val (d : DefE) : FnW := some (d.name, d.qual, d.params, .stmts d.body, d.scope, mainGlobals, [], builtinsNs)
def DefE.dvs (K : PySem.W.Frag) (d : DefE) : List V := d.dfl.map (Dv.v K)
def DefE.ok (K : PySem.W.Frag) (d : DefE) : Bool := PySem.W.keepIn K (.ref (d.ad K)) && (match K.lookup (d.ad K) with
  | some ⟨_, _, .func fd, _⟩ => PySem.W.codeIn K fd.code d.qual && dflB K fd.defaults (d.dvs K)
  | _ => false)
theorem DefE.funD {K : PySem.W.Frag} {d : DefE} (e : fnWA K (d.ad K) = d.val) (c : d.ok K = true) : ∃ fd, FunD K d.name d.qual d.params d.body d.scope (d.dvs K) [] (d.ad K) fd := by
  obtain ⟨kp, c2⟩ := ba c
  unfold fnWA at e
  cases q : K.lookup (d.ad K) with
  | none =>
    rw [q] at c2
    cases c2
  | some o =>
    obtain ⟨oc, od, dt, osl⟩ := o
    rw [q] at c2 e
    cases dt with
    | func fd =>
      obtain ⟨n1, n2, n3, n4, n5, n6, n7, n8, n9, n10, n11, n12, n13, n14, n15⟩ := fd
      have e2 : (some (n1, n2, n3, n4, n5, n6, n7, n15) : FnW) = some (d.name, d.qual, d.params, .stmts d.body, d.scope, mainGlobals, [], builtinsNs) := e
      simp only [Option.some.injEq, Prod.mk.injEq] at e2
      obtain ⟨h1, h2, h3, h4, h5, h6, h7, h8⟩ := e2
      subst h1 h2 h3 h4 h5 h6 h7 h8
      have c3 : (PySem.W.codeIn K n13 d.qual && dflB K n8 (d.dvs K)) = true := c2
      obtain ⟨k1, k3⟩ := ba c3
      exact ⟨_, ⟨oc, od, n8, n9, n10, n11, n12, n13, n14, osl, rfl, q, k1, dflB_ok k3, .inl rfl⟩, kp⟩
    | _ => cases c2
def obsE (fa : List Fa) (fn : List DefE) (ex : PySem.W.Frag → Bool) (K : PySem.W.Frag) : AlM := (((fa.all fun f => f.ok K) && fn.all fun d => d.ok K, fn.map fun d => fnWA K (d.ad K)), ex K)
def obsEG (n : Nat) (fa : List Fa) (fn : List DefE) (ex : PySem.W.Frag → Bool) (g : Addr → Option Obj) : AlM := obsE fa fn ex (frG g (He5.asA g n))
def valE (fn : List DefE) : AlM := ((true, fn.map DefE.val), true)
def SaysE (fa : List Fa) (fn : List DefE) (ex : PySem.W.Frag → Bool) (K : PySem.W.Frag) : Prop := obsE fa fn ex K = valE fn
def hookE (n : Nat) (fa : List Fa) (fn : List DefE) (ex : PySem.W.Frag → Bool) : PySem.W.Hook where
  α := AlM
  obs := fun s => obsEG n fa fn ex s.heap.get?
  val := fun _ => valE fn
  says := fun _ h => ∃ K : PySem.W.Frag, K.In h ∧ SaysE fa fn ex K
  of := fun _ _ e => ⟨_, frG_in, e⟩
  keeps := fun _ _ _ ⟨K, hK, c⟩ k => ⟨K, PySem.W.Frag.In.keeps hK k, c⟩
theorem obsEG_eq {n : Nat} {fa : List Fa} {fn : List DefE} {ex : PySem.W.Frag → Bool} {g : Addr → Option Obj} {s : Shared} (h : ∀ a, g a = s.heap.get? a) : obsEG n fa fn ex g = (hookE n fa fn ex).obs s := by
  have e : g = s.heap.get? := funext h
  rw [e] <;> rfl
section
variable {fa : List Fa} {fn : List DefE} {ex : PySem.W.Frag → Bool} {K : PySem.W.Frag}
theorem SaysE.fact (c : SaysE fa fn ex K) (i : Nat) {f : Fa} (h : fa[i]? = some f := by rfl) : f.ok K = true := by
  have c1 := (ba (show ((fa.all fun f => f.ok K) && fn.all fun d => d.ok K) = true from congrArg (fun z : AlM => z.1.1) c)).1
  exact List.all_eq_true.mp c1 f (List.mem_of_getElem? h)
theorem SaysE.ex_ (c : SaysE fa fn ex K) : ex K = true := congrArg (fun z : AlM => z.2) c
theorem SaysE.def_ (c : SaysE fa fn ex K) (i : Nat) {d : DefE} (h : fn[i]? = some d := by rfl) : ∃ fd, FunD K d.name d.qual d.params d.body d.scope (d.dvs K) [] (d.ad K) fd := by
  have c2 := (ba (show ((fa.all fun f => f.ok K) && fn.all fun d => d.ok K) = true from congrArg (fun z : AlM => z.1.1) c)).2
  have e : fn.map (fun d => fnWA K (d.ad K)) = fn.map DefE.val := congrArg (fun z : AlM => z.1.2) c
  have e2 : (fn.map fun d => fnWA K (d.ad K))[i]? = (fn.map DefE.val)[i]? := by rw [e]
  rw [List.getElem?_map, List.getElem?_map, h] at e2
  exact DefE.funD (Option.some.inj e2) (List.all_eq_true.mp c2 d (List.mem_of_getElem? h))
end
/-! ### own classes -/
def kdL : List Kd := [.non, .bl, .int, .str, .lst, .tup, .dct]
theorem kdL_all (T : Kd) : T ∈ kdL := by cases T <;> decide
/-- what of the text an own class has -/
structure OC (K : PySem.W.Frag) (C : Addr) : Prop where
  cl : Cls K C
  ca : PySem.W.findIn K (.ref C) "__class__" = some (some (.builtin "object.__class__"))
  hn : PySem.W.specialIn K (.builtin "object.__class__") "__get__" = some (some (.builtin "getset_descriptor.__get__"))
  tk : PySem.W.takesIn K (.builtin "object.__class__") = some true
  ob : PySem.W.mroIn K C (.type "object") = some true
  to : ∀ T : Kd, PySem.W.kitOne K (.ref C) (.type (kdN T)) = some false
  of : ∀ T : Kd, PySem.W.kitOne K (.type (kdN T)) (.ref C) = some false
  self : PySem.W.kitOne K (.ref C) (.ref C) = some true
def ocB (K : PySem.W.Frag) (C : Addr) : Bool := (PySem.W.plainGet K C Str.empty && (PySem.W.hasDictIn K C && (PySem.W.plainOver K C && eqO (PySem.W.findIn K (.ref C) "__setattr__") (some (some (.builtin "object.__setattr__")))))) &&
  (eqO (PySem.W.findIn K (.ref C) "__class__") (some (some (.builtin "object.__class__"))) && (eqO (PySem.W.specialIn K (.builtin "object.__class__") "__get__") (some (some (.builtin "getset_descriptor.__get__"))) &&
  (decide (PySem.W.takesIn K (.builtin "object.__class__") = some true) && (decide (PySem.W.mroIn K C (.type "object") = some true) && ((kdL.all fun T => decide (PySem.W.kitOne K (.ref C) (.type (kdN T)) = some false)) &&
  ((kdL.all fun T => decide (PySem.W.kitOne K (.type (kdN T)) (.ref C) = some false)) && decide (PySem.W.kitOne K (.ref C) (.ref C) = some true)))))))
theorem ocB_ok {K : PySem.W.Frag} {C : Addr} (h : ocB K C = true) : OC K C := by
  obtain ⟨h1, h⟩ := ba h
  obtain ⟨a1, h1⟩ := ba h1
  obtain ⟨a2, h1⟩ := ba h1
  obtain ⟨a3, a4⟩ := ba h1
  obtain ⟨h2, h⟩ := ba h
  obtain ⟨h3, h⟩ := ba h
  obtain ⟨h4, h⟩ := ba h
  obtain ⟨h5, h⟩ := ba h
  obtain ⟨h6, h⟩ := ba h
  obtain ⟨h7, h8⟩ := ba h
  exact ⟨⟨a1, a2, a3, eqO_ok a4⟩, eqO_ok h2, eqO_ok h3, of_decide_eq_true h4, of_decide_eq_true h5, fun T => of_decide_eq_true (List.all_eq_true.mp h6 T (kdL_all T)), fun T => of_decide_eq_true (List.all_eq_true.mp h7 T (kdL_all T)), of_decide_eq_true h8⟩
theorem OC.ty {K : PySem.W.Frag} {C : Addr} (c : OC K C) {H : Hp} {a dx : Addr} {fs : List (Str × V)} (h : H a = some (.ins C dx fs)) : TyX K H (.ref a) (.ref C) := .base (.ins h c.cl c.ca c.hn c.tk c.ob)
/-- an instance as a thing -/
theorem OC.th {K : PySem.W.Frag} {C : Addr} (c : OC K C) {H : Hp} {a dx : Addr} {fs : List (Str × V)} (h : H a = some (.ins C dx fs)) : ThOk K H (.ref a) .o := ⟨.ref C, c.ty h, c.to⟩
theorem OC.isD {K : PySem.W.Frag} {C : Addr} (c : OC K C) (d : PyData) : PySem.W.kitOne K (.type (tyn d)) (.ref C) = some false := c.of (kd d)
/-! ### calls of methods, of static methods; making -/
def tMethE (C : Addr) (m : Str) (sp : Sp) (E : L2.St → XK) (ta : TE) (t : TA) : TE := fun σ H Q => ta σ H fun x H1 => ∃ a dx fs, x = .ref a ∧ H1 a = some (.ins C dx fs) ∧ fs.lookup m = none ∧ t σ H1 fun vs H2 => sp (x :: vs) H2 Q (E σ)
def tMakeE (C : Addr) (sp : Sp) (E : L2.St → XK) (t : TA) : TE := fun σ H Q => t σ H fun vs H1 => ∀ x dx, H1 x = Option.none → H1 dx = Option.none → dx ≠ x →
  sp (V.ref x :: vs) (upd (upd H1 dx (.own x)) x (.ins C dx [])) (fun v H2 => v = .non ∧ Q (.ref x) H2) (E σ)
def tSm (C : Addr) (sp : Sp) (E : L2.St → XK) (ta : TE) (t : TA) : TE := fun σ H Q => ta σ H fun x H1 => x = .ref C ∧ t σ H1 fun vs H2 => sp vs H2 Q (E σ)
structure Sm (K : PySem.W.Frag) (C : Addr) (m : Str) (f : Addr) : Prop where
  rd : CRead K C (.type "type")
  at_ : ∃ p, PySem.W.findCls K (.ref C) (.type "type") m = some (.get (.builtin "staticmethod.__get__") (.ref p) .none (.ref C)) ∧ ∃ rest, PySem.W.recIn K p "staticmethod" = some (.ref f :: rest)
  kp : PySem.W.keepIn K (.ref f) = true
def smB (K : PySem.W.Frag) (C : Addr) (m : Str) : Bool := PySem.W.readsIn K C (.type "type") && (eqO (PySem.W.specialIn K (.ref C) "__getattribute__") (some (some (.builtin "type.__getattribute__"))) &&
  (He5.wrapB K C "staticmethod" "staticmethod.__get__" m && PySem.W.keepIn K (.ref (He5.wf K C "staticmethod" m))))
theorem smB_ok {K : PySem.W.Frag} {C : Addr} {m : Str} (h : smB K C m = true) : Sm K C m (He5.wf K C "staticmethod" m) := by
  obtain ⟨h1, h⟩ := ba h
  obtain ⟨h2, h⟩ := ba h
  obtain ⟨h3, h4⟩ := ba h
  obtain ⟨k1, k2⟩ := He5.wrapB_ok h3
  exact ⟨⟨h1, eqO_ok h2⟩, ⟨_, k1, k2⟩, h4⟩
section
variable {X : Cx} {CX : CXT} {k : Nat} {C f : Addr} {m x : Str} {sp : Sp} {E : L2.St → XK} {o e : Expr} {es : List Expr} {ta : TE} {t : TA} {p apos pos : Pos} {pl : Sem Bool}
theorem pe_methE (he : PE X o ta) (c : Cls X.K C) (hm : Meth X.K C m f) (F : FnR X.prog X.w X.K X.mg X.base CX k f sp) (hr : Room k X.A) (hx : ∀ σ, PassesAt CX X σ (E σ)) (ha : PA X (e :: es) t)
    (hst : starEach (e :: es) X.env = (false, eval e X.env) :: starEach es X.env := by rfl) (hpl : (backTo pos (starEach es X.env)).any (·.1) = false := by rfl)
    (ht : eval (.Call (.Attribute o m apos) (e :: es) [] pos) X.env = (do
      let ov ← eval o X.env
      standAt apos.atName
      let (f, first) ← holding [ov] (getMethod ov m pl)
      callWith pos f first (backTo pos (starEach (e :: es) X.env)) (backToKw pos (keywordEach [] X.env))) := by rfl) :
    PE X (.Call (.Attribute o m apos) (e :: es) [] pos) (tMethE C m sp E ta t) := by
  refine ⟨fun pins s σ H Q I h => ?_⟩
  refine PySem.W.methodCall_KW (pl := pl) (thn (he.run pins s σ H _ I h) fun u s1 ⟨x, H1, I1, rx, a, dx, fs, ex, ea, l, q⟩ => ?_) ht
  subst ex
  obtain rfl : u = Value.ref a := rx
  refine getmeth_ok I1 ea c hm l ?_
  refine PySem.W.callWith_K (first := [.ref a]) (h₀ := X.base) I.ok.mod.kin hm.kp (thn (ha.run pos pins s1 σ H1 _ I1 q) fun us s2 ⟨vs, H2, I2, r, q2⟩ => ⟨I2.kIn, ?_⟩) hst hpl
  exact run_fnRS (us := .ref a :: us) (vs := .ref a :: vs) F hr (hx σ) I2 (.cons rfl r) q2
theorem pe_methE0 (he : PE X o ta) (c : Cls X.K C) (hm : Meth X.K C m f) (F : FnR X.prog X.w X.K X.mg X.base CX k f sp) (hr : Room k X.A) (hx : ∀ σ, PassesAt CX X σ (E σ))
    (ht : eval (.Call (.Attribute o m apos) [] [] pos) X.env = (do
      let ov ← eval o X.env
      standAt apos.atName
      let (f, first) ← holding [ov] (getMethod ov m pl)
      callWith pos f first (backTo pos (starEach [] X.env)) (backToKw pos (keywordEach [] X.env))) := by rfl) :
    PE X (.Call (.Attribute o m apos) [] [] pos) (tMethE C m sp E ta tNil) := by
  refine ⟨fun pins s σ H Q I h => ?_⟩
  refine PySem.W.methodCall_KW (pl := pl) (thn (he.run pins s σ H _ I h) fun u s1 ⟨x, H1, I1, rx, a, dx, fs, ex, ea, l, q⟩ => ?_) ht
  subst ex
  obtain rfl : u = Value.ref a := rx
  refine getmeth_ok I1 ea c hm l ?_
  exact PySem.W.callWith_K0 (first := [.ref a]) I1.kIn hm.kp (run_fnRS (us := [.ref a]) (vs := [.ref a]) F hr (hx σ) I1 (.cons rfl .nil) q)
theorem pe_smE (he : PE X o ta) (c : Sm X.K C m f) (F : FnR X.prog X.w X.K X.mg X.base CX k f sp) (hr : Room k X.A) (hx : ∀ σ, PassesAt CX X σ (E σ)) (ha : PA X (e :: es) t)
    (hst : starEach (e :: es) X.env = (false, eval e X.env) :: starEach es X.env := by rfl) (hpl : (backTo pos (starEach es X.env)).any (·.1) = false := by rfl)
    (ht : eval (.Call (.Attribute o m apos) (e :: es) [] pos) X.env = (do
      let ov ← eval o X.env
      standAt apos.atName
      let (f, first) ← holding [ov] (getMethod ov m pl)
      callWith pos f first (backTo pos (starEach (e :: es) X.env)) (backToKw pos (keywordEach [] X.env))) := by rfl) :
    PE X (.Call (.Attribute o m apos) (e :: es) [] pos) (tSm C sp E ta t) := by
  refine ⟨fun pins s σ H Q I h => ?_⟩
  refine PySem.W.methodCall_KW (pl := pl) (thn (he.run pins s σ H _ I h) fun u s1 ⟨x, H1, I1, rx, ex, q⟩ => ?_) ht
  subst ex
  obtain rfl : u = Value.ref C := rx
  obtain ⟨pa, h1, rest, h2⟩ := c.at_
  refine PySem.W.method_cls I1.kIn c.rd.ga (PySem.W.cls_bind I1.kIn c.rd.rd h1 ?_)
  refine wpAny_call (PySem.W.sm_get (s := { s1 with toks := s1.toks + 1 }) I1.kIn h2 (PySem.W.handed_on rfl ?_))
  have I2 := I1.tok (s1.toks + 1)
  refine PySem.W.callWith_K (first := []) (h₀ := X.base) I.ok.mod.kin c.kp (thn (ha.run pos pins _ σ H1 _ I2 q) fun us s2 ⟨vs, H2, I3, r, q2⟩ => ⟨I3.kIn, ?_⟩) hst hpl
  exact run_fnRS (us := us) (vs := vs) F hr (hx σ) I3 r q2
theorem run_makeE {pins : List (Addr × Obj)} {σ : L2.St} {H : Hp} {s : Shared} {Q : VK} {us : List Value} {vs : List V} (M : Mk X.K C f) (F : FnR X.prog X.w X.K X.mg X.base CX k f sp) (hr : Room (k + 1) X.A) (hx : PassesAt CX X σ (E σ)) (I : Inv X pins σ H s) (r : Vals vs us)
    (h : ∀ x dx, H x = Option.none → H dx = Option.none → dx ≠ x → sp (V.ref x :: vs) (upd (upd H dx (.own x)) x (.ins C dx [])) (fun v H2 => v = .non ∧ Q (.ref x) H2) (E σ)) :
    wpAny (model X.prog X.w) X.A (call (.ref C) us) (EP X pins σ Q) X.xe s := by
  have hq := h (s.heap.objs.size + 1) s.heap.objs.size (I.hok.fresh (Nat.le_succ _)) (I.hok.fresh (Nat.le_refl _)) (Nat.ne_of_lt (Nat.lt_succ_self _))
  have I2 := Inv.made (C := C) I
  have r2 : Vals (V.ref (s.heap.objs.size + 1) :: vs) (Value.ref (s.heap.objs.size + 1) :: us) := .cons rfl r
  refine wpAny_call (make_map (f := f) I.kIn M.makes M.init (beq_iff_eq.mp M.fn) (codeAny_mono (F _ X.stack _ _ (Value.ref (s.heap.objs.size + 1) :: us) _ _ (E σ) (hr.make C us []) (I2.env0.make C us []) r2 hq) fun r s' hq' => ?_))
  cases r with
  | error e => exact hx pins _ _ e s' I2 hq'
  | ok fl =>
    cases fl with
    | ret u =>
      obtain ⟨v, H', I3, rv, ev, q3⟩ := I2.after hq'
      subst ev
      exact ⟨rv, ⟨V.ref (s.heap.objs.size + 1), H', I3, rfl, q3⟩⟩
    | next => exact False.elim hq'
    | brk => exact False.elim hq'
    | cont => exact False.elim hq'
theorem pe_makeE (M : Mk X.K C f) (F : FnR X.prog X.w X.K X.mg X.base CX k f sp) (hr : Room (k + 1) X.A) (hm : X.mg x = some (.ref C)) (hx : ∀ σ, PassesAt CX X σ (E σ)) (ha : PA X (e :: es) t) (hg : Gl X x := by rfl) (hdb : (x == ("__debug__" : Str)) = false := by decide)
    (he : starEach (e :: es) X.env = (false, eval e X.env) :: starEach es X.env := by rfl) (hpl : (backTo pos (starEach es X.env)).any (·.1) = false := by rfl) : PE X (.Call (.Name x p) (e :: es) [] pos) (tMakeE C sp E t) := by
  refine ⟨fun pins s σ H Q I h => ?_⟩
  refine wpAny_Call_Name_kw (ld_glob I hg hm ?_ hdb)
  refine PySem.W.callWith_K (h₀ := X.base) I.ok.mod.kin M.kp (thn (ha.run pos pins s σ H _ I h) fun us s1 ⟨vs, H1, I1, r, q⟩ => ⟨I1.kIn, ?_⟩) he hpl
  exact run_makeE M F hr (hx σ) I1 r q
end
/-- nothing is let out -/
theorem px0 {X : Cx} : ∀ σ, PassesAt CX0 X σ ((fun _ => E0) σ) := fun _ _ _ _ _ _ _ h => h.elim
theorem pxq {X : Cx} : ∀ σ, PassesAt (L2.CX X.prog X.w) X σ ((fun _ => E0) σ) := fun σ pins H s e s' I h => passL pins σ H s e s' I h
theorem pxx {X : Cx} {W : WX} (tk : Takes X W) : ∀ σ, PassesAt (L2.CX X.prog X.w) X σ (WE W σ) := fun σ => passAt tk σ
/-! from a def's body to its promise, wherever it stands -/
section
variable {P : Program} {w : World} {K : PySem.W.Frag} {mg : Str → Option Value} {base : Heap} {CX : CXT} {k : Nat} {x qual : Str} {sp : Sp} {params : Arguments} {body : List Stmt} {scope : Scope} {f : Addr} {fd : FuncData} {ps N : List Str}
theorem fnN (F : FunD K x qual params body scope [] [] f fd)
    (hb : ∀ (kV doc pm : Value) (an : Option Addr) (cdv ct : Value) (us : List Value), us.length = ps.length → bindArgs (PySem.W.fnOf x qual params body scope .none kV doc pm an cdv ct) ⟨us, []⟩ = pure (ps.zip us))
    (S : FnScope N ps scope) (len : ∀ vs H Q E, sp vs H Q E → vs.length = ps.length)
    (hbody : ∀ (cdv : Value) (A : Around) (outer : List Env) (s : Shared) (H : Hp) (vs : List V) (Q : VK) (E : XK), Room k (A.deeper (envOfC qual scope s.heap.objs.size f cdv)) → sp vs H Q E →
      ∃ t, PSs (cxOf CX P w K mg base N qual scope f cdv A outer s H E) body t ∧ t { nx := fun _ H' => Q .non H', rt := Q } (start N vs) H) : FnR P w K mg base CX (k + 1) f sp :=
  ((F.ok S len hbody).raw (F.bindsN hb) .nil).imp fun vs H Q E h => by rw [List.append_nil]; exact h
end
end EL
namespace EX
open PySem PySem.W PySem.Calls PyProof.Rows PySem.HandSPX
/-! ### an own error with a field: super().__init__('..'); self.f = f -/
def xiB (fl msg : Str) (j : Nat) (p0 p1 p2 p3 p4 p5 q1 q2 q3 q4 : Pos) : List Stmt :=
  [.Expr (.Call (.Attribute (.Call (.Name "super" p0) [] [] p1) "__init__" p2) [.Constant (.str msg) j p3] [] p4) p5, .Assign [.Attribute (.Name "self" q1) fl q2] (.Name fl q3) q4]
/-- its head and its scope -/
structure XSc (params : Arguments) (scope : Scope) (fl : Str) : Prop where
  bind : ∀ (name q : Str) (body : List Stmt) (doc pm : Value) (an : Option Addr) (cdv ct : Value) (cc : Addr) (u v : Value), bindArgs (ksFn name q params body scope .none .none doc pm an cdv ct cc) ⟨[u, v], []⟩ = pure [(("self" : Str), u), (fl, v)]
  head : ∃ ar : Arg, (params.posonlyargs ++ params.args).head? = some ar ∧ ar.arg = "self"
  ks : scope.names.lookup ("super" : Str) = some .globalImplicit
  kc : scope.names.lookup ("__class__" : Str) = some .free
  kself : scope.names.lookup ("self" : Str) = some .local
  kf : scope.names.lookup fl = some .local
  kind : scope.kind = .function
  ncell : ∀ x ∈ scope.names, x.2 ≠ .cell
  co : scope.isCoroutine = false
  gen : scope.isGenerator = false
  ne : fl ≠ "self"
  dbg : (fl == ("__debug__" : Str)) = false
/-- what the written part says of the class at C and of its __init__ at fI -/
structure XTxt (K : Frag) (C fI cc cda : Addr) (fl file : Str) : Prop where
  cls : ∃ nm q N bs bm sn sub ab col dd k0 k1 k2 k3 k5, K.lookup C = some (excClassObj nm q C N bs bm true sn sub ab col dd k0 k1 k2 k3 k5 "ValueError.__new__") ∧ refsVE bm = true
  sa : findIn K (.ref C) "__setattr__" = some (some (.builtin "object.__setattr__"))
  noN : findIn K (.ref C) fl = some none
  iC : findIn K (.ref C) "__init__" = some (some (.ref fI))
  tC : typeIn K (.ref fI) = some (.type "function")
  ve : subIn K (.ref C) (.type "ValueError") = some true
  self : mroIn K C (.ref C) = some true
  sup : ks_superIn K C C "__init__" = some (some (.builtin "ValueError.__init__"))
  tp : nsIn K cStatics "thirdparty.any" = some none
  cell : ∃ cl cld csl, K.lookup cc = some ⟨cl, cld, .cell (some (.ref C)), csl⟩
  code : ∃ ccl cdd vs ccs tf, K.lookup cda = some ⟨ccl, cdd, .fields vs, ccs⟩ ∧ vs[2]? = some (.str file tf)
  fn : ∃ (oc : Value) (od : Option Addr) (doc pm : Value) (an : Option Addr) (ct : Value) (osl : Array (Option Value)) (q : Str) (params : Arguments) (scope : Scope) (msg : Str) (j : Nat) (p0 p1 p2 p3 p4 p5 q1 q2 q3 q4 : Pos),
    K.lookup fI = some ⟨oc, od, .func (ksFn "__init__" q params (xiB fl msg j p0 p1 p2 p3 p4 p5 q1 q2 q3 q4) scope .none .none doc pm an (.ref cda) ct cc), osl⟩ ∧ codeIn K (.ref cda) q = true ∧ XSc params scope fl ∧ (p2.endLine == p4.line) = true
/-- what __init__ leaves of a fresh exception at x -/
structure InitEnd (h h' : Heap) (x C dx t1 : Addr) (fl : Str) (v : Value) : Prop where
  keep : ∀ b o, b ≠ x → h.get? b = some o → h'.get? b = some o
  obj : h'.get? x = some { cls := .ref C, dict := some dx, data := .fields #[.ref t1, .none, .none, .none, .bool false, .none] }
  dbig : h.objs.size ≤ dx
  dne : dx ≠ x
  ns : h'.Ns1 dx (fun y => if y = fl then some v else none)
structure OwnMade (h h' : Heap) (e C d : Addr) (fl : Str) (v : Value) : Prop where
  keep : ∀ b o, h.get? b = some o → h'.get? b = some o
  new : h.objs.size ≤ e
  obj : ∃ oe vs, h'.get? e = some oe ∧ oe.cls = .ref C ∧ oe.dict = some d ∧ oe.data = .fields vs ∧ vs[1]? = some .none
  dbig : h.objs.size ≤ d
  dne : d ≠ e
  ns : h'.Ns1 d (fun y => if y = fl then some v else none)
theorem meth_eq {o e : Expr} {name : Str} {p2 p4 : Pos} {env : Env} (hl : (p2.endLine == p4.line) = true) : eval (.Call (.Attribute o name p2) [e] [] p4) env = (do
      let ov ← attributeBase o name env (eval o env)
      standAt p2.atName
      let (f, first) ← holding [ov] (calleeOf (methodCallForm 1 (backTo p4 (starEach [e] env)) []) o env ov name)
      callWith p4 f first (backTo p4 (starEach [e] env)) []) := by
  show (attributeBase o name env (eval o env) >>= fun ov => standAt p2.atName >>= fun _ => methodCall o name p2 p4 env ov 1 (backTo p4 (starEach [e] env)) []) = _
  have x : ∀ ov, methodCall o name p2 p4 env ov 1 (backTo p4 (starEach [e] env)) [] = (holding [ov] (calleeOf (methodCallForm 1 (backTo p4 (starEach [e] env)) []) o env ov name) >>= fun z => callWith p4 z.1 z.2 (backTo p4 (starEach [e] env)) []) := fun ov => by
    unfold methodCall methodCallPos
    simp only [hl, Bool.or_true, if_true, pure_bind]
  simp only [x]
section
variable {prog : Program} {w : World} {A : Around} {E : Value → Shared → Prop} {R : Result → Shared → Prop} {s : Shared} {K : Frag} {C fI cc cda : Addr} {fl file : Str} {mg mb : Str → Option Value}
/-- the wrapper of ValueError.__init__ called -/
theorem call_mw {h : Heap} {g : Array GenState} {d : Drawn} {t : Nat} {os : OsState} {u e t0 : Addr} {rest : List Value} {Q : Value → Shared → Prop}
    (hC : ∃ nm q N bs bm sn sub ab col dd k0 k1 k2 k3 k5, h.get? C = some (excClassObj nm q C N bs bm true sn sub ab col dd k0 k1 k2 k3 k5 "ValueError.__new__")) (he : h.get? e = some (excO C t0)) (hu : h.get? u = some (kxs_mw "ValueError.__init__" e)) (hrest : rest.length ≤ sizeLine)
    (hq : ∀ h' t1, (∀ b o, b ≠ e → h.get? b = some o → h'.get? b = some o) → h'.get? e = some (excO C t1) → Q .none ⟨h', g, d, t, os⟩) :
    wpAny (model prog w) A (call (.ref u) rest) Q E ⟨h, g, d, t, os⟩ := by
  obtain ⟨nm, q, N, bs, bm, sn, sub, ab, col, dd, k0, k1, k2, k3, k5, hC⟩ := hC
  refine wpAny_call (codeAny_of_tree ?_)
  show wpAny _ A.in1 (callAny (.ref u) ⟨rest, []⟩) _ _ _
  simp only [callAny]
  refine wpAny_bind (wpAny_load hu ?_)
  simp only [kxs_mw, show (Value.type "method-wrapper" == Value.type "method" || Value.type "method-wrapper" == Value.type "builtin_function_or_method" || Value.type "method-wrapper" == Value.type "method-wrapper") = true by decide, if_true]
  refine KFB.if_so (by decide) ?_
  refine wpAny_bind (check_bound_init F.excBase_ValueError.toExcCallFacts hC he rfl ?_)
  refine wpAny_bind (wpAny_pure (wpAny_pure ?_))
  refine ⟨plainId_quiet F.excBase_ValueError.init.plain _, codeAny_builtin F.excBase_ValueError.initEntry ?_⟩
  exact exc_init_tree (cls := .ref C) (t0 := t0) (dv := none) (c2 := .none) (c3 := .none) (b4 := .bool false) he hrest fun h' k e' _ => hq h' _ k e'
theorem kept_but {h h' : Heap} {x : Addr} (X : K.In h) (hx : K.lookup x = none) (k : ∀ b o, b ≠ x → h.get? b = some o → h'.get? b = some o) : K.In h' := fun a o e =>
  k a o (fun z => by rw [z, hx] at e; cases e) (X a o e)
theorem xf_init (T : XTxt K C fI cc cda fl file) {x t0 : Addr} {v : Value} (X : K.In s.heap) (hlim : s.heap.NoLimit) (hx : s.heap.get? x = some (excO C t0)) (hnx : K.lookup x = none) (hroom : A.depth < recursionLimit)
    (G : s.heap.Ns mainGlobals mg) (hsu : mg "super" = none) (Bn : s.heap.Ns builtinsNs mb) (hb : mb "super" = some (.type "super")) (hfile : ((prog.main.file : Str) == file) = true) (htop : (prog.main.scope.names.lookup ("super" : Str)).isSome = false)
    (hq : ∀ h' tk dx t1, InitEnd s.heap h' x C dx t1 fl v → R (.ok (.ret .none)) { s with heap := h', toks := tk }) :
    codeAny (model prog w) A (.call (.ref fI) ⟨[.ref x, v], []⟩) R s := by
  obtain ⟨oc, od, doc, pm, an, ct, osl, q, params, scope, msg, j, p0, p1, p2, p3, p4, p5, q1, q2, q3, q4, ho, hcd, S, hl⟩ := T.fn
  obtain ⟨nm, cq, N, bs, bm, sn, sub, ab, col, dd, k0, k1, k2, k3, k5, hC, hbm⟩ := T.cls
  obtain ⟨cl, cld, csl, hcell⟩ := T.cell
  obtain ⟨ccl, cdd, vs, ccs, tf, hcode, hvs⟩ := T.code
  obtain ⟨ar, har, hara⟩ := S.head
  have hcl : clsIn K C = some { name := nm, bases := bs, mro := .ref C :: bm, ns := N, qualname := cq, hasDict := true, slotNames := sn, subclasses := sub, abstract := ab, collection := col, hasDel := false } := by unfold clsIn; rw [hC] <;> rfl
  refine ks_codeAny_call_defAt (fd := ksFn "__init__" q params (xiB fl msg j p0 p1 p2 p3 p4 p5 q1 q2 q3 q4) scope .none .none doc pm an (.ref cda) ct cc) (binds := [(("self" : Str), .ref x), (fl, v)]) hroom (X _ _ ho) rfl hlim (codeRec_of X hcd) rfl (BindsTo.of_eq (S.bind ..)) S.ncell ?_ (fun h₁ hn k => ?_) S.co S.gen S.kind
  · intro y hy
    rcases List.mem_cons.mp hy with rfl | hy
    · exact S.kself
    · rcases List.mem_cons.mp hy with rfl | hy
      · exact S.kf
      · cases hy
  have vself : ([(("self" : Str), Value.ref x), (fl, v)] : List (Str × Value)).reverse.lookup ("self" : Str) = some (.ref x) := by
    show List.lookup ("self" : Str) [(fl, v), (("self" : Str), Value.ref x)] = _
    have e : (("self" : Str) == fl) = false := by simpa using Ne.symm S.ne
    simp [List.lookup, e]
  have vfl : ([(("self" : Str), Value.ref x), (fl, v)] : List (Str × Value)).reverse.lookup fl = some v := by
    show List.lookup fl [(fl, v), (("self" : Str), Value.ref x)] = _
    simp [List.lookup]
  obtain ⟨hh, g, d, t, os⟩ := s
  dsimp only at hn k X hlim hx G Bn
  have X₁ : K.In h₁ := X.keeps k
  have hx₁ := k _ _ hx
  show _root_.PySem.wpAt _ _ (.func _ (ksEnv q scope hh.objs.size fI (.ref cda) cc)) (execs (xiB fl msg j p0 p1 p2 p3 p4 p5 q1 q2 q3 q4) (ksEnv q scope hh.objs.size fI (.ref cda) cc)) _ _ _
  refine ks_wpAt_execs_cons (ks_wpAt_Expr_any (ks_wpAt_MethodCall ?_ (meth_eq hl)) (by unfold interactive; simp [S.kind]))
  refine ks_wpAt_super_base (env := ksEnv q scope hh.objs.size fI (.ref cda) cc) S.ks S.kc (by decide) rfl (X₁ _ _ ho) rfl har rfl (X₁ _ _ hcode) rfl hvs hfile htop ?_
  refine ks_loadName_global S.kind S.ks (loadGlobal_builtin (env := ksEnv q scope hh.objs.size fI (.ref cda) cc) (G.keeps k) hsu (Bn.keeps k) hb ⟨rfl, ?_⟩)
  refine wpAny_loadName_free S.kind S.kc rfl ⟨_, X₁ _ _ hcell, rfl⟩ ?_
  rw [hara]
  refine wpAny_loadName_local S.kind S.kself hn vself ?_
  refine ks_wpAny_isType_cls (X₁ _ _ hC) rfl ⟨rfl, ?_⟩
  refine ks_wpAny_call_super (X₁ _ _ hC) rfl hx₁ rfl (fun c e => by cases e) (looks_mroIn X₁ T.self) (fun h₂ e₂ k₂ => ?_)
  have X₂ : K.In h₂ := X₁.keeps k₂
  have hx₂ := k₂ _ _ hx₁
  have I₂ : InstAt h₂ x (excO C t0) C none := ⟨hx₂, rfl, rfl, trivial⟩
  have hI : Looks (model prog w) h₂ (isInstance (.ref x) (.type "ValueError")) true := I₂.type.andThen (looks_subIn X₂ T.ve)
  have hsp := T.sup
  unfold ks_superIn at hsp
  rw [hcl] at hsp
  refine kxs_getMethod kxs_ValueError e₂ (looks_opaque X₂ T.tp) (l₀ := .ref C :: bm) (fun A Q E s k q => wpAny_bind ((looks_clsIn X₂ hcl) A _ E s k (wpAny_pure q))) rfl X₂ hsp hI (ks_ne X₂ I₂ hcl) (by decide) ?_
  have hu₃ : (h₂.push (kxs_mw "ValueError.__init__" x)).get? h₂.objs.size = some (kxs_mw "ValueError.__init__" x) := Heap.get?_push_at rfl rfl
  have k₃ : ∀ b o, h₂.get? b = some o → (h₂.push (kxs_mw "ValueError.__init__" x)).get? b = some o := fun b o e => Heap.get?_push_of_some _ e
  dsimp only
  refine kxs_callWith (i := "ValueError.__init__") (x := x) rfl ?_
  refine evalArgs_plain (spliced_cons (wpAny_Constant_str (k := j) (pos := p3) (spliced_nil ⟨hu₃, ?_⟩)))
  have hxL : hh.objs.size ≠ x := Nat.ne_of_gt (Heap.lt_size hx)
  refine call_mw (C := C) (e := x) (t0 := t0) ⟨nm, cq, N, bs, bm, sn, sub, ab, col, dd, k0, k1, k2, k3, k5, k₃ _ _ (X₂ _ _ hC)⟩ (k₃ _ _ hx₂) hu₃ (by show 1 ≤ sizeLine; decide) fun h₄ t1 k₄ hx₄ => ?_
  have X₄ : K.In h₄ := kept_but (X₂.keeps k₃) hnx k₄
  have k04 : ∀ b o, b ≠ x → hh.get? b = some o → h₄.get? b = some o := fun b o hbx e => k₄ b o hbx (k₃ b o (k₂ b o (k b o e)))
  obtain ⟨oL, es, ep, hL, rr⟩ := hn
  have hn₄ : h₄.Ns hh.objs.size (fun x_1 => ([(("self" : Str), Value.ref x), (fl, v)] : List (Str × Value)).reverse.lookup x_1) := ⟨oL, es, ep, k₄ _ _ hxL (k₃ _ _ (k₂ _ _ hL)), rr⟩
  have z1 : hh.objs.size < h₄.objs.size := hn₄.lt
  refine ks_wpAt_execs_cons (wpAt_of_wpAny (plainObj_wpAny_Assign_Attribute ?_))
  refine wpAny_Name (wpAny_loadName_local S.kind S.kf hn₄ vfl ?_) S.dbg
  refine wpAny_Name (wpAny_loadName_local S.kind S.kself hn₄ vself ?_) (by decide)
  refine set_plain X₄ (ox := excO C t1) (od := none) ⟨hx₄, rfl, rfl, trivial⟩ T.sa ?_
  refine exc_osa X₄ hx₄ hcl (show refsVE (.ref C :: bm) = true from hbm) rfl T.noN (fun h₅ tk₅ dx k₅ dn dne hx₅ hn₅ => ?_)
  refine wpAt_of_wpAny (wpAny_execs_nil ?_)
  exact hq h₅ tk₅ dx t1 ⟨fun b o hbx e => k₅ b o hbx (k04 b o hbx e), hx₅, Nat.le_of_lt (Nat.lt_of_lt_of_le z1 dn), dne, hn₅⟩
theorem xf_made (T : XTxt K C fI cc cda fl file) {v : Value} (X : K.In s.heap) (hlim : s.heap.NoLimit) (hroom : A.depth + 1 < recursionLimit)
    (G : s.heap.Ns mainGlobals mg) (hsu : mg "super" = none) (Bn : s.heap.Ns builtinsNs mb) (hb : mb "super" = some (.type "super")) (hfile : ((prog.main.file : Str) == file) = true) (htop : (prog.main.scope.names.lookup ("super" : Str)).isSome = false)
    (hq : ∀ h' tk e d, OwnMade s.heap h' e C d fl v → R (.ok (.ret (.ref e))) { s with heap := h', toks := tk }) :
    codeAny (model prog w) A (.call (.ref C) ⟨[v], []⟩) R s := by
  obtain ⟨nm, q, N, bs, bm, sn, sub, ab, col, dd, k0, k1, k2, k3, k5, hC, hbm⟩ := T.cls
  obtain ⟨hp, g, dr, tk, os⟩ := s
  have k : ∀ b o, hp.get? b = some o → ((hp.push (kdv_tup [v])).push (excO C hp.objs.size)).get? b = some o := fun b o e => Heap.get?_push_of_some _ (Heap.get?_push_of_some _ e)
  have hget : ((hp.push (kdv_tup [v])).push (excO C hp.objs.size)).get? (hp.objs.size + 1) = some (excO C hp.objs.size) := by heap_get
  have hnx : K.lookup (hp.objs.size + 1) = none := by
    cases e : K.lookup (hp.objs.size + 1) with
    | none => rfl
    | some o =>
      have z : hp.get? (hp.objs.size + 1) = some o := X _ _ e
      exact absurd (Nat.lt_of_succ_lt (Heap.lt_size z)) (Nat.lt_irrefl _)
  refine call_own F.excBase_ValueError (fun X => refsVE_contains X bm hbm) (X _ _ hC) (looks_findIn X T.iC) (fun self => bind_fn X self T.tC) (by show 1 ≤ sizeLine; decide) ?_
  refine xf_init (s := ⟨(hp.push (kdv_tup [v])).push (excO C hp.objs.size), g, dr, tk, os⟩) T (X.keeps k) (hlim.keeps k) hget hnx ?_ (G.keeps k) hsu (Bn.keeps k) hb hfile htop fun h' tk' dx t1 ⟨k', hx, dn, dne, hns⟩ => ?_
  · show A.depth + 1 < recursionLimit
    exact hroom
  · have old : ∀ b o, hp.get? b = some o → h'.get? b = some o := fun b o e => k' b o (Nat.ne_of_lt (Nat.lt_succ_of_lt (Heap.lt_size e))) (k b o e)
    have z : hp.objs.size + 1 + 1 ≤ dx := by
      first
        | (simpa only [Heap.size_push] using dn)
        | exact dn
        | (have q := dn; rw [Heap.size_push, Heap.size_push] at q; exact q)
    exact ⟨rfl, hq h' tk' (hp.objs.size + 1) dx ⟨old, Nat.le_succ _, ⟨_, _, hx, rfl, rfl, rfl, rfl⟩, Nat.le_trans (Nat.le_trans (Nat.le_succ _) (Nat.le_succ _)) z, dne, hns⟩⟩
end
end EX
namespace EL
open PySem PySem.Spec PyProof.Rows L2 He TL
/-- the program's file, no own super -/
structure PF (P : Program) (file : Str) : Prop where
  file : ((P.main.file : Str) == file) = true
  top : (P.main.scope.names.lookup ("super" : Str)).isSome = false
/-- an own error with the field fl -/
structure XT (K : PySem.W.Frag) (mg : Str → Option Value) (x fl file : Str) : Prop where
  t : ∃ cc cda, EX.XTxt K (ga K x) (ma K (ga K x) "__init__") cc cda fl file
  g : mg x = some (.ref (ga K x))
  su : mg "super" = none
  kp : PySem.W.keepIn K (.ref (ga K x)) = true
  ex : PySem.W.subIn K (.ref (ga K x)) (.type "BaseException") = some true
  ty : PySem.W.typeIn K (.ref (ga K x)) = some (.type "type")
theorem relO_one {fl : Str} {v : V} {v' : Value} (r : RelV v v') (f : Str) : RelO (List.lookup f [(fl, v)]) (if f = fl then some v' else none) := by
  by_cases hw : f = fl
  · subst hw
    rw [if_pos rfl]
    have q : List.lookup f [(f, v)] = some v := by simp [List.lookup]
    rw [q]
    exact r
  · rw [if_neg hw]
    have qw : (f == fl) = false := by simpa using hw
    have q2 : List.lookup f [(fl, v)] = none := by simp [List.lookup, qw]
    rw [q2]
    trivial
section
variable {X : Cx} {x fl file : Str}
def tMkX (C : Addr) (fl : Str) (ta : TA) : L2.St → Hp → XK → Prop := fun σ H Q => ta σ H fun vs H1 => ∃ v, vs = [v] ∧ ∀ d, H1 d = none → Q (.ref C) (some d) (upd H1 d (.xd [(fl, v)]))
theorem pmk_xf {a : Expr} {ta : TA} {p pos : Pos} {k : Nat} (hP : PF X.prog file) (T : XT X.K X.mg x fl file) (hr : Room k X.A) (ha : PA X [a] ta) (hg : Gl X x := by rfl) (hdb : (x == ("__debug__" : Str)) = false := by decide)
    (he : starEach (a :: []) X.env = (false, eval a X.env) :: starEach [] X.env := by rfl) (hpl : (backTo pos (starEach [] X.env)).any (·.1) = false := by rfl) :
    PMk X (.Call (.Name x p) [a] [] pos) (tMkX (ga X.K x) fl ta) := by
  intro pins s σ H Q I h
  refine wpAny_Call_Name_kw (ld_glob I hg T.g ?_ hdb)
  refine PySem.W.callWith_K (h₀ := X.base) I.ok.mod.kin T.kp (thn (ha.run pos pins s σ H _ I h) fun us s1 hh => ?_) he hpl
  obtain ⟨vs, H1, I1, r1, v, ev, q1⟩ := hh
  subst ev
  refine ⟨I1.kIn, ?_⟩
  cases r1 with
  | cons rv rn =>
    rename_i v' us'
    cases rn
    show wpAny _ _ (call (.ref (ga X.K x)) [v']) _ _ _
    have hlim := I1.nolimit
    obtain ⟨cc, cda, TT⟩ := T.t
    obtain ⟨mb, hmb, hmb2⟩ := I1.mod.blt
    have G1 : s1.heap.Ns mainGlobals X.mg := I1.mod.glob.keeps I1.bk
    have B1 : s1.heap.Ns builtinsNs mb := hmb.keeps I1.bk
    have hsu : mb "super" = some (.type "super") := (hmb2 _ (by decide +kernel)).trans (by decide +kernel)
    obtain ⟨hp, g, dr, tk, os⟩ := s1
    refine wpAny_call (EX.xf_made TT I1.kIn hlim (by have := hr.dp; omega) G1 T.su B1 hsu hP.file hP.top fun h' tk' e d M => ?_)
    show MkP X pins σ Q (.ref e) ⟨h', g, dr, tk', os⟩
    obtain ⟨oe, fv, hoe, hc, hd, hdat, h1⟩ := M.obj
    have hns := M.ns
    obtain ⟨G', g1, g2⟩ := restrict h' fun b => decide (b ≠ e)
    have gk : ∀ b, b ≠ e → G'.get? b = h'.get? b := fun b hb => g1 b (decide_eq_true hb)
    have ge : G'.get? e = none := g2 e (by simp)
    have old : ∀ b o, hp.get? b = some o → G'.get? b = some o := fun b o q => (gk b (Nat.ne_of_lt (Nat.lt_of_lt_of_le (Heap.lt_size q) M.new))).trans (M.keep b o q)
    have ob : ObjOk X.prog X.w (upd H1 d (.xd [(fl, v)])) G' d (.xd [(fl, v)]) :=
      ⟨_, hns.at (fun o q => (gk d M.dne).trans q), fun f => relO_one rv f⟩
    have J : Inv X pins σ (upd H1 d (.xd [(fl, v)])) ⟨G', g, dr, tk', os⟩ := I1.laid (t' := tk') old M.dbig ob
    refine ⟨e, oe, fv, ⟨G', g, dr, tk', os⟩, _, .ref (ga X.K x), some d, rfl, J, fun b o q => ?_, ge, hoe, ⟨hc, hd⟩, hdat, h1, ?_, rfl, I1.bare, raises_own T.ex T.ty, q1 d (I1.hok.fresh M.dbig)⟩
    · by_cases hb : b = e
      · have q' : G'.get? b = some o := q
        rw [hb, ge] at q'; cases q'
      · exact (gk b hb).symm.trans q
    · rw [upd_ne (Ne.symm M.dne)]
      exact I1.hok.fresh M.new
/-- raise C(e), C an own error with a field -/
theorem rsx {a : Expr} {ta : TA} {W : WX} {p pos pos2 : Pos} {k : Nat} (hc : X.calm = true) (tk : Takes X W) (hP : PF X.prog file) (T : XT X.K X.mg x fl file) (hr : Room k X.A) (ha : PA X [a] ta) (hg : Gl X x := by rfl) (hdb : (x == ("__debug__" : Str)) = false := by decide)
    (he : starEach (a :: []) X.env = (false, eval a X.env) :: starEach [] X.env := by rfl) (hpl : (backTo pos (starEach [] X.env)).any (·.1) = false := by rfl) :
    PS X (.Raise (some (.Call (.Name x p) [a] [] pos)) none pos2) (fun _ σ H => tMkX (ga X.K x) fl ta σ H fun cls d H' => W cls d σ H') := ps_raise hc tk (pmk_xf hP T hr ha hg hdb he hpl)
end
end EL
namespace EL
open PySem PySem.W PySem.Spec PyProof.Rows He
/-! ### the facts of such an error, from the head -/
def xclB (K : Frag) (C : Addr) : Bool := match K.lookup C with
  | some ⟨.type "type", _, .cls cd, sl⟩ => (match cd.mro, sl.toList with
    | .ref C' :: bm, [_, _, _, _, some (.builtin n), _] => C' == C && n == "ValueError.__new__" && !cd.hasDel && cd.hasDict && HandSPX.refsVE bm
    | _, _ => false)
  | _ => false
theorem xclB_ok {K : Frag} {C : Addr} (q : xclB K C = true) : ∃ nm q N bs bm sn sub ab col dd k0 k1 k2 k3 k5, K.lookup C = some (excClassObj nm q C N bs bm true sn sub ab col dd k0 k1 k2 k3 k5 "ValueError.__new__") ∧ HandSPX.refsVE bm = true := by
  unfold xclB at q
  split at q
  · rename_i dd cd sl ho
    split at q
    · rename_i C' bm k0 k1 k2 k3 n k5 hm hs
      simp only [Bool.and_eq_true, beq_iff_eq, Bool.not_eq_true'] at q
      obtain ⟨⟨⟨⟨rfl, rfl⟩, hdel⟩, hdi⟩, ht⟩ := q
      obtain ⟨nm, bs, mro, ns, qn, hd, sn, sub, ab, col, del⟩ := cd
      dsimp only at hm hdel hdi
      subst hm hdel hdi
      have hsl : sl = #[k0, k1, k2, k3, some (.builtin "ValueError.__new__"), k5] := by
        obtain ⟨l⟩ := sl
        simp only at hs
        rw [hs]
      subst hsl
      exact ⟨nm, qn, ns, bs, bm, sn, sub, ab, col, dd, k0, k1, k2, k3, k5, ho, ht⟩
    · cases q
  · cases q
/-- closure, code, defaults of its __init__ -/
def xfnB (K : Frag) (C f : Addr) (q file : Str) : Bool := match K.lookup f with
  | some ⟨_, _, .func fd, _⟩ => (match fd.closure, fd.code, fd.defaults, fd.kwdefaults with
    | [(_, cc)], .ref cda, .none, .none => (match K.lookup cc with
      | some ⟨_, _, .cell (some (.ref D)), _⟩ => decide (D = C)
      | _ => false) && ((match K.lookup cda with
      | some ⟨_, _, .fields vs, _⟩ => (match (vs[2]? : Option Value) with
        | some (Value.str fi _) => decide (fi = file)
        | _ => false)
      | _ => false) && codeIn K (.ref cda) q)
    | _, _, _, _ => false)
  | _ => false
def xtB (K : Frag) (x fl file : Str) : Bool := xclB K (ga K x) && (eqO (findIn K (.ref (ga K x)) "__setattr__") (some (some (.builtin "object.__setattr__"))) && (eqO (findIn K (.ref (ga K x)) fl) (some none) &&
  (eqO (findIn K (.ref (ga K x)) "__init__") (some (some (.ref (ma K (ga K x) "__init__")))) && (decide (typeIn K (.ref (ma K (ga K x) "__init__")) = some (.type "function")) && (decide (subIn K (.ref (ga K x)) (.type "ValueError") = some true) &&
  (decide (mroIn K (ga K x) (.ref (ga K x)) = some true) && (eqO (ks_superIn K (ga K x) (ga K x) "__init__") (some (some (.builtin "ValueError.__init__"))) && (eqO (nsIn K cStatics "thirdparty.any") (some none) &&
  (keepIn K (.ref (ga K x)) && (decide (subIn K (.ref (ga K x)) (.type "BaseException") = some true) && (decide (typeIn K (.ref (ga K x)) = some (.type "type")) && (L2.xfB K (ga K x) && xfnB K (ga K x) (ma K (ga K x) "__init__") (x ++ ".__init__") file))))))))))))
/-- what of a def with a closure is looked at (the cells' places not) -/
def fnWX (K : Frag) (a : Addr) : FnW := match K.lookup a with
  | some ⟨_, _, .func fd, _⟩ => some (fd.name, fd.qualname, fd.params, fd.body, fd.scope, fd.globals, fd.closure.map fun z => (z.1, 0), fd.builtins)
  | _ => none
structure DefX where
  cls : Str
  fl : Str
  st : Stmt
def DefX.val (d : DefX) : FnW := some ("__init__", d.cls ++ ".__init__", L2.defArgs d.st, .stmts (L2.defBody d.st), L2.defScope d.st, mainGlobals, [("__class__", 0)], builtinsNs)
def DefX.ad (K : Frag) (d : DefX) : Addr := ma K (ga K d.cls) "__init__"
/-- its text, as it was written -/
structure XW (d : DefX) : Prop where
  sc : EX.XSc (L2.defArgs d.st) (L2.defScope d.st) d.fl
  body : ∃ (msg : Str) (j : Nat) (p0 p1 p2 p3 p4 p5 q1 q2 q3 q4 : Pos), L2.defBody d.st = EX.xiB d.fl msg j p0 p1 p2 p3 p4 p5 q1 q2 q3 q4 ∧ (p2.endLine == p4.line) = true
theorem xt_of {K : Frag} {mg : Str → Option Value} {file : Str} {d : DefX} (W : XW d) (e : fnWX K (d.ad K) = d.val) (g : mg d.cls = some (.ref (ga K d.cls))) (su : mg "super" = none) (h : xtB K d.cls d.fl file = true) : XT K mg d.cls d.fl file ∧ L2.XfC K (ga K d.cls) ∧ findIn K (.ref (ga K d.cls)) d.fl = some none := by
  obtain ⟨h1, h⟩ := ba h
  obtain ⟨h2, h⟩ := ba h
  obtain ⟨h3, h⟩ := ba h
  obtain ⟨h4, h⟩ := ba h
  obtain ⟨h5, h⟩ := ba h
  obtain ⟨h6, h⟩ := ba h
  obtain ⟨h7, h⟩ := ba h
  obtain ⟨h8, h⟩ := ba h
  obtain ⟨h9, h⟩ := ba h
  obtain ⟨h10, h⟩ := ba h
  obtain ⟨h11, h⟩ := ba h
  obtain ⟨h12, h⟩ := ba h
  obtain ⟨h13, h14⟩ := ba h
  refine ⟨⟨?_, g, su, h10, of_decide_eq_true h11, of_decide_eq_true h12⟩, L2.xfB_ok h13, eqO_ok h3⟩
  unfold xfnB at h14
  unfold fnWX at e
  unfold DefX.ad at e
  split at h14
  · rename_i oc od fd osl lk
    rw [lk] at e
    obtain ⟨n1, n2, n3, n4, n5, n6, n7, n8, n9, n10, n11, n12, n13, n14, n15⟩ := fd
    have e2 : (some (n1, n2, n3, n4, n5, n6, n7.map (fun z => (z.1, (0 : Addr))), n15) : FnW) = (some (("__init__" : Str), d.cls ++ ".__init__", L2.defArgs d.st, FuncBody.stmts (L2.defBody d.st), L2.defScope d.st, mainGlobals, [(("__class__" : Str), (0 : Addr))], builtinsNs) : FnW) := e
    simp only [Option.some.injEq, Prod.mk.injEq] at e2
    obtain ⟨z1, z2, z3, z4, z5, z6, z7, z8⟩ := e2
    dsimp only at h14
    split at h14
    · rename_i nm cc cda
      obtain ⟨k1, k⟩ := ba h14
      obtain ⟨k2, k3⟩ := ba k
      subst z1 z2 z3 z4 z5 z6 z8
      have hnm : nm = "__class__" := by
        simp only [List.map_cons, List.map_nil, List.cons.injEq, Prod.mk.injEq] at z7
        exact z7.1.1
      subst hnm
      refine ⟨cc, cda, xclB_ok h1, eqO_ok h2, eqO_ok h3, eqO_ok h4, of_decide_eq_true h5, of_decide_eq_true h6, of_decide_eq_true h7, eqO_ok h8, eqO_ok h9, ?_, ?_, ?_⟩
      · split at k1
        · rename_i cl cld D csl lc
          rw [of_decide_eq_true k1] at lc
          exact ⟨_, _, _, lc⟩
        · cases k1
      · split at k2
        · rename_i ccl cdd vs ccs lc
          split at k2
          · rename_i fi tf hv
            rw [of_decide_eq_true k2] at hv
            exact ⟨_, _, _, _, _, lc, hv⟩
          · cases k2
        · cases k2
      · obtain ⟨msg, j, p0, p1, p2, p3, p4, p5, q1, q2, q3, q4, hb, hl⟩ := W.body
        rw [hb] at lk
        exact ⟨oc, od, _, _, _, _, osl, _, _, _, msg, j, p0, p1, p2, p3, p4, p5, q1, q2, q3, q4, lk, k3, W.sc, hl⟩
    · cases h14
  · cases h14
end EL
namespace EL
open PySem PySem.Spec PyProof.Rows L2 He TL
/-! ### the head with such errors -/
abbrev AlX : Type := AlM × List FnW
def obsX (fa : List Fa) (fn : List DefE) (xn : List DefX) (ex : PySem.W.Frag → Bool) (K : PySem.W.Frag) : AlX := (obsE fa fn ex K, xn.map fun d => fnWX K (d.ad K))
def obsXG (n : Nat) (fa : List Fa) (fn : List DefE) (xn : List DefX) (ex : PySem.W.Frag → Bool) (g : Addr → Option Obj) : AlX := obsX fa fn xn ex (frG g (He5.asA g n))
def valX (fn : List DefE) (xn : List DefX) : AlX := (valE fn, xn.map DefX.val)
def SaysX (fa : List Fa) (fn : List DefE) (xn : List DefX) (ex : PySem.W.Frag → Bool) (K : PySem.W.Frag) : Prop := obsX fa fn xn ex K = valX fn xn
def hookX (n : Nat) (fa : List Fa) (fn : List DefE) (xn : List DefX) (ex : PySem.W.Frag → Bool) : PySem.W.Hook where
  α := AlX
  obs := fun s => obsXG n fa fn xn ex s.heap.get?
  val := fun _ => valX fn xn
  says := fun _ h => ∃ K : PySem.W.Frag, K.In h ∧ SaysX fa fn xn ex K
  of := fun _ _ e => ⟨_, frG_in, e⟩
  keeps := fun _ _ _ ⟨K, hK, c⟩ k => ⟨K, PySem.W.Frag.In.keeps hK k, c⟩
theorem obsXG_eq {n : Nat} {fa : List Fa} {fn : List DefE} {xn : List DefX} {ex : PySem.W.Frag → Bool} {g : Addr → Option Obj} {s : Shared} (h : ∀ a, g a = s.heap.get? a) : obsXG n fa fn xn ex g = (hookX n fa fn xn ex).obs s := by
  have e : g = s.heap.get? := funext h
  rw [e] <;> rfl
section
variable {fa : List Fa} {fn : List DefE} {xn : List DefX} {ex : PySem.W.Frag → Bool} {K : PySem.W.Frag}
theorem SaysX.e (c : SaysX fa fn xn ex K) : SaysE fa fn ex K := congrArg (fun z : AlX => z.1) c
theorem SaysX.xd (c : SaysX fa fn xn ex K) (i : Nat) {d : DefX} (h : xn[i]? = some d := by rfl) : fnWX K (d.ad K) = d.val := by
  have e : xn.map (fun d => fnWX K (d.ad K)) = xn.map DefX.val := congrArg (fun z : AlX => z.2) c
  have e2 : (xn.map fun d => fnWX K (d.ad K))[i]? = (xn.map DefX.val)[i]? := by rw [e]
  rw [List.getElem?_map, List.getElem?_map, h] at e2
  exact Option.some.inj e2
end
end EL
namespace EL
open PySem PySem.Spec PyProof.Rows L2 He TL
/-! ### own dunders of instances with a dict -/
section
variable {X : Cx} {CX : CXT} {k : Nat} {C g : Addr} {sp : Sp} {E : XK}
theorem ins_at {pins : List (Addr × Obj)} {σ : L2.St} {H : Hp} {s : Shared} {a dx : Addr} {fs : List (Str × V)} (I : Inv X pins σ H s) (h : H a = some (.ins C dx fs)) : ∃ ox od, PySem.W.InstAt s.heap a ox C od ∧ ox.data = .plain := by
  obtain ⟨mA, O, _⟩ := ins_get I.hok h
  obtain ⟨od, J, _⟩ := O.look
  exact ⟨_, _, J, rfl⟩
/-- len(x) of an instance -/
def rLenO (C : Addr) (sp : Sp) (E : XK) : List V → Hp → VK → Prop := fun xs H Q => ∃ a dx fs, xs = [V.ref a] ∧ H a = some (.ins C dx fs) ∧ sp [.ref a] H (fun z H' => ∃ n : Int, z = .int n ∧ (0 ≤ n ∧ n < 2 ^ 63) ∧ Q z H') E
theorem call_lenO (hm : Meth X.K C "__len__" g) (F : FnR X.prog X.w X.K X.mg X.base CX k g sp) (hr : Room (k + 1) X.A) (hx : Passes CX X E) : CallR X (.builtin "len") (rLenO C sp E) := by
  intro pins s σ H xs us Q I r h
  obtain ⟨a, dx, fs, rfl, ha, q⟩ := h
  obtain ⟨u, rfl, ru⟩ := r.one
  cases (show u = Value.ref a from ru)
  obtain ⟨ox, od, J, _⟩ := ins_at I ha
  obtain ⟨m, hF⟩ := I.fr
  refine PySem.W.len_K hF I.ok.mod.kin J hm.at_ hm.fn (wpAny_mono (wpAny_call (SlX.run_at (us := [.ref a]) (ws := [.ref a]) F (Room.in1 hr) I.env0.in1 hx I (.cons rfl .nil) q)) (fun w s' z => ?_) fun _ _ x => x)
  obtain ⟨z', H', I', rz, n, en, hn, qz⟩ := z
  subst en
  obtain ⟨t, e⟩ := (show ∃ t, w = Value.int n t from rz)
  cases e
  exact ⟨hn, .int n, H', I'.tok _, ⟨_, rfl⟩, qz⟩
/-- x op y, x an instance of the class at C whose def for op is at g; y a thing whose type has no say first -/
def rCmpO (K : PySem.W.Frag) (C : Addr) (sp : Sp) (E : XK) : R2 := fun x y H Q => ∃ a dx fs t, x = .ref a ∧ H a = some (.ins C dx fs) ∧ TyX K H y t ∧ PySem.W.notFirst K C t = true ∧ sp [x, y] H Q E
theorem op_cmpO {op : CmpOp} (hop : ∀ a b, compareOp op a b = richCompare op a b) (hs : PySem.W.findIn X.K (.ref C) (cmpInfo op).2.1 = some (some (.ref g))) (hf : PySem.W.isFn X.K (.ref g) = true) (F : FnR X.prog X.w X.K X.mg X.base CX k g sp)
    (hr : Room k X.A) (hx : Passes CX X E) : OpR X (compareOp op) (rCmpO X.K C sp E) := by
  intro pins s σ H x y v u Q I rx ry h
  obtain ⟨a, dx, fs, t, rfl, ha, ty, hn, q⟩ := h
  cases (show v = Value.ref a from rx)
  obtain ⟨ox, od, J, _⟩ := ins_at I ha
  obtain ⟨P, Z, p, _⟩ := kit_of I ry ty
  obtain ⟨m, hF⟩ := I.fr
  rw [hop]
  refine PySem.W.cmp_K (op := op) (tb := t) hr.units0 hF I.ok.mod.kin J (Z.ty _ _ I.kIn p) hn hs hf ?_
  refine wpAny_mono (run_fnR (us := [.ref a, u]) (vs := [.ref a, y]) F hr hx I (.cons rfl (.cons ry .nil)) q |> wpAny_call) (fun w s' z => ?_) fun _ _ x => x
  obtain ⟨z', H', I', rz, qz⟩ := z
  exact SlX.cmpback rz ⟨z', H', I', rz, qz⟩
/-- y in x, x an instance with an own __contains__ that answers a bool -/
def rInO (C : Addr) (sp : Sp) (E : XK) (neg : Bool) : R2 := fun y x H Q => ∃ a dx fs, x = .ref a ∧ H a = some (.ins C dx fs) ∧ sp [x, y] H (fun z H' => ∃ b : Bool, z = .bl b ∧ Q (.bl (if neg then !b else b)) H') E
theorem op_inO (hm : Meth X.K C "__contains__" g) (F : FnR X.prog X.w X.K X.mg X.base CX k g sp) (hr : Room k X.A) (hx : Passes CX X E) : OpR X (compareOp .In) (rInO C sp E false) := by
  intro pins s σ H y x u v Q I ry rx h
  obtain ⟨a, dx, fs, rfl, ha, q⟩ := h
  cases (show v = Value.ref a from rx)
  obtain ⟨ox, od, J, _⟩ := ins_at I ha
  obtain ⟨m, hF⟩ := I.fr
  refine PySem.W.in_K hF I.ok.mod.kin J hm.at_ hm.fn (wpAny_mono (wpAny_call (run_fnR (us := [.ref a, u]) (vs := [.ref a, y]) F hr hx I (.cons rfl (.cons ry .nil)) q)) (fun w s' z => ?_) fun _ _ x => x)
  obtain ⟨z', H', I', rz, b, eb, qz⟩ := z
  subst eb
  cases (show w = Value.bool b from rz)
  exact wpAny_truthy_bool ⟨.bl b, H', I', rfl, qz⟩
theorem op_notInO (hm : Meth X.K C "__contains__" g) (F : FnR X.prog X.w X.K X.mg X.base CX k g sp) (hr : Room k X.A) (hx : Passes CX X E) : OpR X (compareOp .NotIn) (rInO C sp E true) := by
  intro pins s σ H y x u v Q I ry rx h
  obtain ⟨a, dx, fs, rfl, ha, q⟩ := h
  cases (show v = Value.ref a from rx)
  obtain ⟨ox, od, J, _⟩ := ins_at I ha
  obtain ⟨m, hF⟩ := I.fr
  refine PySem.W.notIn_K hF I.ok.mod.kin J hm.at_ hm.fn (wpAny_mono (wpAny_call (run_fnR (us := [.ref a, u]) (vs := [.ref a, y]) F hr hx I (.cons rfl (.cons ry .nil)) q)) (fun w s' z => ?_) fun _ _ x => x)
  obtain ⟨z', H', I', rz, b, eb, qz⟩ := z
  subst eb
  cases (show w = Value.bool b from rz)
  exact wpAny_truthy_bool ⟨.bl (!b), H', I', rfl, qz⟩
/-- ~x -/
theorem un_invO (hm : Meth X.K C "__invert__" g) (F : FnR X.prog X.w X.K X.mg X.base CX k g sp) (hr : Room k X.A) (hx : Passes CX X E) : UnR X (unaryOp .Invert) (fun x H Q => ∃ a dx fs, x = .ref a ∧ H a = some (.ins C dx fs) ∧ sp [x] H Q E) := by
  intro pins s σ H x v Q I rx h
  obtain ⟨a, dx, fs, rfl, ha, q⟩ := h
  cases (show v = Value.ref a from rx)
  obtain ⟨ox, od, J, _⟩ := ins_at I ha
  obtain ⟨m, hF⟩ := I.fr
  exact PySem.W.ksp_inv hF I.ok.mod.kin J hm.at_ hm.fn (wpAny_call (run_fnR (us := [.ref a]) (vs := [.ref a]) F hr hx I (.cons rfl .nil) q))
/-- x op y, two instances of the class at C -/
def rBinO (C : Addr) (sp : Sp) (E : XK) : R2 := fun x y H Q => ∃ a dx fs b dy gs, x = .ref a ∧ y = .ref b ∧ H a = some (.ins C dx fs) ∧ H b = some (.ins C dy gs) ∧ sp [x, y] H Q E
theorem op_binO {op : Operator} (hc : PySem.W.selfFirst X.K C = true) (hs : PySem.W.findIn X.K (.ref C) (PySem.dunder op.info.2) = some (some (.ref g))) (hf : PySem.W.isFn X.K (.ref g) = true) (F : FnR X.prog X.w X.K X.mg X.base CX k g sp)
    (hr : Room k X.A) (hx : Passes CX X E) : OpR X (binaryOp op) (rBinO C sp E) := by
  intro pins s σ H x y v u Q I rx ry h
  obtain ⟨a, dx, fs, b, dy, gs, rfl, rfl, ha, hb, q⟩ := h
  cases (show v = Value.ref a from rx)
  cases (show u = Value.ref b from ry)
  obtain ⟨ox, od, J, _⟩ := ins_at I ha
  obtain ⟨ox', od', J', _⟩ := ins_at I hb
  obtain ⟨m, hF⟩ := I.fr
  refine PySem.W.binop_K hF I.ok.mod.kin J J'.type hc hs hf ?_
  refine wpAny_mono (wpAny_call (run_fnR (us := [.ref a, .ref b]) (vs := [.ref a, .ref b]) F hr hx I (.cons rfl (.cons rfl .nil)) q)) (fun w s' z => ?_) fun _ _ x => x
  obtain ⟨z', H', I', rz, qz⟩ := z
  exact SlX.cmpback rz ⟨z', H', I', rz, qz⟩
end
end EL
namespace EL
open PySem PySem.Spec PyProof.Rows L2 He TL
/-! ### several except clauses, each with a name (slot i) or without -/
/-- a clause: its class, the slot of its name, its suite's reading -/
abbrev Cl1 : Type := Value × Option Nat × (Addr → Value → Option Addr → TS)
def wMix (K : PySem.W.Frag) (Wout : WX) (D : Ends) : List Cl1 → WX
  | [] => Wout
  | (c, none, ts) :: r => fun cls d σ H => ∃ b, PySem.W.exmOne K cls c = some b ∧ (b = true → ∀ a, H a = none → ts a cls d D σ H) ∧ (b = false → wMix K Wout D r cls d σ H)
  | (c, some i, ts) :: r => fun cls d σ H => ∃ b, PySem.W.exmOne K cls c = some b ∧
      (b = true → ∀ a, H a = none → ts a cls d { nx := fun σ' H' => D.nx (σ'.set i none) H', rt := D.rt, bk := fun σ' H' => D.bk (σ'.set i none) H', ct := fun σ' H' => D.ct (σ'.set i none) H' } (σ.set i (some (.ref a))) H) ∧
      (b = false → wMix K Wout D r cls d σ H)
inductive HdsMix (X : Cx) : List ExceptHandler → List Cl1 → Prop
  | nil : HdsMix X [] []
  | one {x : Str} {c : Value} {ts : Addr → Value → Option Addr → TS} {b₀ : Stmt} {suite : List Stmt} {np pos' : Pos} {hds : List ExceptHandler} {l : List Cl1} (hc : Names X x c)
      (hsu : ∀ (a : Addr) (oe : Obj) (cls : Value) (d : Option Addr) (pn : List (Addr × Obj)), Zc cls d oe → (∃ vs, oe.data = .fields vs) → PSs (X.suite a ((a, oe) :: pn)) (b₀ :: suite) (ts a cls d)) (r : HdsMix X hds l) :
      HdsMix X (.ExceptHandler (some (.Name x np)) none (b₀ :: suite) pos' :: hds) ((c, none, ts) :: l)
  | as_ {x n : Str} {i : Nat} {c : Value} {ts : Addr → Value → Option Addr → TS} {b₀ : Stmt} {suite : List Stmt} {np pos' : Pos} {hds : List ExceptHandler} {l : List Cl1} (hi : X.N[i]? = some n) (hln : X.env.kindOf n = some .local) (hc : Names X x c)
      (hsu : ∀ (a : Addr) (oe : Obj) (cls : Value) (d : Option Addr) (pn : List (Addr × Obj)), Zc cls d oe → (∃ vs, oe.data = .fields vs) → PSs (X.suite a ((a, oe) :: pn)) (b₀ :: suite) (ts a cls d)) (r : HdsMix X hds l) :
      HdsMix X (.ExceptHandler (some (.Name x np)) (some n) (b₀ :: suite) pos' :: hds) ((c, some i, ts) :: l)
section
variable {X : Cx} {body : List Stmt} {h₀ : ExceptHandler} {hds : List ExceptHandler} {l : List Cl1} {pos : Pos} {tb : WX → TS} {Wout : WX}
theorem ps_try_mix (hs : X.stack = X.env :: X.outer) (hf : X.env.frame = some X.env.locals) (hN : X.N.Nodup) (tk : Takes X Wout)
    (hb : ∀ (W : WX) (pn : List (Addr × Obj)) (xe : Value → Shared → Prop), Takes (X.tr pn xe) W → PassesOwn (model X.prog X.w) X.A X.env xe → PSs (X.tr pn xe) body (tb W))
    (hh : HdsMix X (h₀ :: hds) l) : PS X (.Try body (h₀ :: hds) [] [] pos) (fun D σ H => tb (wMix X.K Wout D l) D σ H) := by
  refine ⟨fun pins s σ H D I h => ?_⟩
  have ok := I.ok
  have hfr : X.A.frames = some (X.env :: X.outer) := by rw [ok.frames, hs]
  refine wpAny_Try_except ?_
  refine wpAny_mono ((hb (wMix X.K Wout D l) (X.pn ++ pins) (fun e s₁ => wpAny (model X.prog X.w) X.A (noteFrame e X.env) (fun _ s₂ => wpAny (model X.prog X.w) X.A (setFlight e none) (fun _ s₃ =>
    wpAny (model X.prog X.w) X.A (handleBy e X.env (h₀ :: hds)) (SP X pins D) X.xe s₃) X.xe s₂) X.xe s₁) (fun u s' xx => ?_) PassesOwn.looking).run [] s σ H D (I.toTry _) h) (fun f s1 hsp => ?_) (fun e s1 he => he)
  · -- the catch
    obtain ⟨a, B, sI, pins', σ', H', cls, d, rfl, J', nb, up, sky, na, os, ag, w⟩ := xx
    have J : Inv X pins σ' H' sI := J'.ofTry ok
    have sky' : Sky B (X.env :: X.outer) a (Zc cls d) X.env.locals s'.heap := by rw [← hs]; exact sky
    show wpAny (model X.prog X.w) X.A (noteFrame (.ref a) X.env) _ _ _
    refine Sky.land Zc.steady hfr hf sky' fun h3 fl3 up3 => ?_
    have J3 : Inv X pins σ' H' { s' with heap := h3 } := J.landed nb fl3.1 (up.trans up3) os ag
    obtain ⟨oe3, vs3, he3, hz3, hd3⟩ := fl3.there
    have notFr : ∀ {h : Heap} {o : Obj} {vs : Array Value}, h.FunFrames B (X.env :: X.outer) → h.get? a = some o → o.data = .fields vs → a ∉ frs (X.env :: X.outer) := fun {h o vs} ff e dd hm => by
      obtain ⟨_, o', e', hnf⟩ := ff.mem hm
      rw [e] at e'; cases e'
      exact hnf _ dd
    have nfr := notFr fl3.2.2.1 he3 hd3
    have nL : a ≠ X.env.locals := fun z => nfr (List.mem_filterMap.mpr ⟨X.env, List.mem_cons_self, by rw [hf, z]⟩)
    have nF : a ∉ X.fs := fun hm => by
      obtain ⟨e, he, q⟩ := List.mem_filterMap.mp hm
      exact nfr (List.mem_filterMap.mpr ⟨e, List.mem_cons_of_mem _ he, q⟩)
    have S3 := J3.suite he3 hd3 na nL nF
    have test : ∀ {x : Str} {c : Value} {np : Pos} {Q : Value → Shared → Prop} {E : Value → Shared → Prop}, Names X x c → Q c { s' with heap := h3 } → wpAny (model X.prog X.w) (X.A.mark (some (.ref a))) (eval (.Name x np) X.env) Q E { s' with heap := h3 } := fun {x c np Q E} hc q => by
      obtain ⟨hg, hdbg, hm | ⟨hm, hv, hnn⟩⟩ := hc
      · exact ld_glob (X := X.suite a ((a, oe3) :: (X.pn ++ pins))) S3 hg hm q hdbg
      · exact ld_blt (X := X.suite a ((a, oe3) :: (X.pn ++ pins))) S3 hg hm hv q hnn hdbg
    have LT : PySem.W.Looks (model X.prog X.w) h3 (typeOf (.ref a)) cls := fun A Q E s k q => wpAny_typeOf_ref (k _ _ he3) (by rw [hz3.1]; exact q)
    have go : ∀ {hds' : List ExceptHandler} {l' : List Cl1}, HdsMix X hds' l' → wMix X.K Wout D l' cls d σ' H' →
        wpAny (model X.prog X.w) X.A (handleBy (.ref a) X.env hds') (SP X pins D) X.xe { s' with heap := h3 } := by
      intro hds' l' hk
      induction hk with
      | nil =>
        intro w
        refine wpAny_handleBy_nil ?_
        obtain ⟨k1, k2, k3, oe, vs, T, oT, ts', he, hz, hd, h1, hr⟩ := id fl3
        unfold PySem.passOn
        refine wpAny_bind (wpAny_field he hd h1 ?_)
        rw [if_neg (show ¬ ((Value.ref T == Value.none) = true) from by simp)]
        have fin : wpAny (model X.prog X.w) X.A (setFlight (.ref a) X.env.frame) (fun _ s4 => wpAny (model X.prog X.w) X.A (throw (.ref a) : Sem Flow) (SP X pins D) X.xe s4) X.xe { s' with heap := h3 } := by
          rw [hf]
          refine HandSPX.setFlight_upZ fl3 fun h4 hh4 up4 => wpAny_throw (tk _ _ ?_)
          exact ⟨a, B, sI, pins, σ', H', cls, d, rfl, J, nb, (up.trans up3).trans up4, .inr (.inr (by rw [hs]; exact hh4)), na, os, ag, w⟩
        first
          | exact wpAny_bind (wpAny_pure (wpAny_bind fin))
          | exact wpAny_bind fin
      | @one x c ts b₀ suite np pos' hds2 l2 hc hsu r ih =>
        intro w
        obtain ⟨b, hb1, hyes, hno⟩ := w
        refine wpAny_handleBy_cons (codeAny_handlers_test ?_) (by intro q; cases q)
        have LM := PySem.W.exm_one (M := model X.prog X.w) (J3.kIn) LT hb1
        refine test hc (LM.here ?_)
        cases b with
        | true =>
          refine codeAny_handlers_suite ?_
          refine HandSPX.lands_againZ fl3 fun h4 fl4 up4 => ?_
          have J4 : Inv X pins σ' H' { s' with heap := h4 } := J.landed nb fl4.1 ((up.trans up3).trans up4) os ag
          obtain ⟨oe4, vs4, he4, hz4, hd4⟩ := fl4.there
          have S4 := J4.suite he4 hd4 na nL nF
          refine wpAny_mono ((hsu a oe4 cls d (X.pn ++ pins) hz4 ⟨_, hd4⟩).run [] _ _ H' _ S4 (hyes rfl a na)) (fun f s6 hsp => ?_) (fun _ _ z => False.elim z)
          cases f with
          | next =>
            obtain ⟨σ6, H6, S6, q6⟩ := hsp
            exact ⟨_, _, S6.unsuite ok, q6⟩
          | brk =>
            obtain ⟨σ6, H6, S6, q6⟩ := hsp
            exact ⟨_, _, S6.unsuite ok, q6⟩
          | cont =>
            obtain ⟨σ6, H6, S6, q6⟩ := hsp
            exact ⟨_, _, S6.unsuite ok, q6⟩
          | ret u =>
            obtain ⟨v6, σ6, H6, S6, r6, q6⟩ := hsp
            exact ⟨_, _, _, S6.unsuite ok, r6, q6⟩
        | false =>
          show wpAny _ X.A (handleBy (.ref a) X.env hds2) _ _ _
          exact ih (hno rfl)
      | @as_ x n i c ts b₀ suite np pos' hds2 l2 hi hln hc hsu r ih =>
        intro w
        obtain ⟨b, hb1, hyes, hno⟩ := w
        have hloc : Loc X.env.scope n := .inl hln
        refine wpAny_handleBy_cons (codeAny_handlers_test ?_) (by intro q; cases q)
        have LM := PySem.W.exm_one (M := model X.prog X.w) (J3.kIn) LT hb1
        refine test hc (LM.here ?_)
        cases b with
        | true =>
          refine codeAny_handlers_suite_as ?_
          refine HandSPX.lands_againZ fl3 fun h4 fl4 up4 => ?_
          have J4 : Inv X pins σ' H' { s' with heap := h4 } := J.landed nb fl4.1 ((up.trans up3).trans up4) os ag
          obtain ⟨oe4, vs4, he4, hz4, hd4⟩ := fl4.there
          have S4 := J4.suite he4 hd4 na nL nF
          refine store_ok (X := X.suite a ((a, oe4) :: (X.pn ++ pins))) (v := .ref a) S4 hN hi hloc rfl (fun s5 S5 => ?_) (.inr hln)
          refine wpAny_mono ((hsu a oe4 cls d (X.pn ++ pins) hz4 ⟨_, hd4⟩).run [] s5 _ H' _ S5 (hyes rfl a na)) (fun f s6 hsp => ?_) (fun _ _ z => False.elim z)
          have end_ : ∀ {σ6 : L2.St} {H6 : Hp} {Q : Shared → Prop}, Inv (X.suite a ((a, oe4) :: (X.pn ++ pins))) [] σ6 H6 s6 → (∀ s7, Inv X pins (σ6.set i none) H6 s7 → Q s7) →
              wpAny (model X.prog X.w) X.A (do bindName X.env n .none; unbindBehindTheSuite X.env n pos') (fun _ s7 => Q s7) X.xe s6 := fun {σ6 H6 Q} S6 hq => gone_ok (S6.unsuite ok) hN hi hln hq
          cases f with
          | next =>
            obtain ⟨σ6, H6, S6, q6⟩ := hsp
            exact end_ S6 fun s7 J7 => ⟨_, _, J7, q6⟩
          | brk =>
            obtain ⟨σ6, H6, S6, q6⟩ := hsp
            exact end_ S6 fun s7 J7 => ⟨_, _, J7, q6⟩
          | cont =>
            obtain ⟨σ6, H6, S6, q6⟩ := hsp
            exact end_ S6 fun s7 J7 => ⟨_, _, J7, q6⟩
          | ret u =>
            obtain ⟨v6, σ6, H6, S6, r6, q6⟩ := hsp
            exact end_ S6 fun s7 J7 => ⟨_, _, _, J7, r6, q6⟩
        | false =>
          show wpAny _ X.A (handleBy (.ref a) X.env hds2) _ _ _
          exact ih (hno rfl)
    exact go hh w
  · cases f with
    | next =>
      obtain ⟨σ', H', J', q⟩ := hsp
      exact wpAny_execs_nil ⟨σ', H', J'.ofTry ok, q⟩
    | brk =>
      obtain ⟨σ', H', J', q⟩ := hsp
      exact ⟨σ', H', J'.ofTry ok, q⟩
    | cont =>
      obtain ⟨σ', H', J', q⟩ := hsp
      exact ⟨σ', H', J'.ofTry ok, q⟩
    | ret u =>
      obtain ⟨v, σ', H', J', r, q⟩ := hsp
      exact ⟨v, σ', H', J'.ofTry ok, r, q⟩
end
end EL
namespace EL
open PySem PySem.Spec PyProof.Rows L2 He TL
/-! ### dict comprehensions whose keys are ints, texts or tuples of them -/
/-- the empty dict, either way -/
inductive NilD : HO → Prop where
  | k : NilD (.dK [])
  | t : NilD (.dT [])
theorem NilD.ok {P : Program} {w : World} {H : Hp} {o : HO} (n : NilD o) (h : Heap) (hb : sysModules < h.objs.size) : ObjOk P w H (h.push { cls := .type "dict", data := .dict #[] }) h.objs.size o := by
  cases n with
  | k => exact dk_empty h hb
  | t => exact dt_empty h hb
theorem put_by {X : Cx} {pins : List (Addr × Obj)} {σ : L2.St} {H H' : Hp} {s : Shared} {E : Value → Shared → Prop} {D : Addr} {y v : V} {u r : Value} {Q : Unit → Shared → Prop} (hu : X.A.units < cLine) (I : Inv X pins σ H s) (g : DPut H D y v H')
    (ry : RelV y u) (rv : RelV v r) (h : ∀ s', Inv X pins σ H' s' → Q () s') : wpAny (model X.prog X.w) X.A (dictSet D u r) Q E s := by
  rcases g with ⟨kvs, k, e, ey, l, eH⟩ | ⟨kvs, k, b, e, ey, eb, l, eH⟩
  · subst ey
    subst eH
    exact d_dictSet I e l ry rv h
  · subst ey
    subst eH
    obtain rfl : u = Value.ref b := ry
    obtain ⟨z, hd, xs, rel, dd⟩ := dt_of I.hok e
    refine wpAny_dictSet_heap (hsz := by rw [← Paired.length rel]; exact z) (show (tupleKind (mixKind X.prog X.w)).room X.A from hu) (key_of I.hok eb) dd fun h' dd' hs => h _ ?_
    obtain ⟨q, es, ep, hq, c2, c3, c4, _, c5⟩ := dd'
    have lz : (putK kvs k v).length ≤ sizeLine := by have := length_putK kvs k v; omega
    exact d_write I (by rw [e]; trivial) hs ⟨q, hq⟩ ⟨lz, hd, _, (rel.put k eb rv).keeps fun c ys ec => (upd_ne (ne_of ec e (fun z => nomatch z))).trans ec, q, es, ep, hq, c2, c3, c4, c5⟩
section
variable {X : Cx}
abbrev DcStep (g : TG) (tt : TT) (tk tv : TE) (vs : List Nat) (σ : L2.St) (D : Addr) (Nx : Hp → Prop) (x : V) (H : Hp) : Prop := g x (wipe σ vs) H fun σ2 H2 => wipe σ2 vs = wipe σ vs ∧ tt σ2 H2 fun b H3 =>
  if b = true then tk σ2 H3 fun y H4 => tv σ2 H4 fun z H5 => ∃ H6, DPut H5 D y z H6 ∧ Nx H6 else Nx H3
def tDcG (o0 : HO) (wi : TI) (g : TG) (tt : TT) (tk tv : TE) (vs : List Nat) : TE := fun σ H Q => wi σ H fun J H1 => ∀ D, H1 D = none → ∃ W : Nat → Nat → Hp → Prop, (∃ m, W 0 m (upd H1 D o0)) ∧ ∀ i m H, W i m H →
  (J.stop i H ∧ Q (.ref D) H) ∨ (J.go i H ∧ ∃ Nx : Hp → Prop, (∀ H', Nx H' → ∃ m', m' < m ∧ W (i + 1) m' H') ∧ ∀ x H', J.yld i H x H' → DcStep g tt tk tv vs σ D Nx x H')
theorem pe_dcG {o0 : HO} {kx vx tg iter : Expr} {ifs : List Expr} {scope : Scope} {own : List (Str × Nat)} {pos : Pos} {wi : TI} {g : TG} {tt : TT} {tk tv : TE} (n0 : NilD o0) (hu : X.A.units < cLine) (hc : X.calm = true) (hN : X.N.Nodup) (hi : PI X tg iter wi) (ok : BlkOk X.N X.env.scope scope own)
    (hg : ∀ (s : Shared) (H : Hp) (C : Addr) (cl : List (Str × Addr)) (fp : List Addr), PG (X.blk s H scope (compEnvC scope cl C X.env) fp) tg g) (ht : ∀ (s : Shared) (H : Hp) (C : Addr) (cl : List (Str × Addr)) (fp : List Addr), PTs (X.blk s H scope (compEnvC scope cl C X.env) fp) ifs tt)
    (hk : ∀ (s : Shared) (H : Hp) (C : Addr) (cl : List (Str × Addr)) (fp : List Addr), PE (X.blk s H scope (compEnvC scope cl C X.env) fp) kx tk)
    (hv : ∀ (s : Shared) (H : Hp) (C : Addr) (cl : List (Str × Addr)) (fp : List Addr), PE (X.blk s H scope (compEnvC scope cl C X.env) fp) vx tv) (hs : ∀ x, foldedSetIterable iter X.env x = pure x := by intro _; rfl) :
    PE X (.DictComp kx vx [⟨tg, iter, ifs, 0⟩] scope pos) (tDcG o0 wi g tt tk tv (own.map (·.2))) := by
  refine ⟨fun pins s σ H Q I h => ?_⟩
  rw [arm_eval_DictComp]
  have cl : ∀ y ∈ scope.names, y.2 = .free → ∃ c, X.env.cells.lookup y.1 = some c := fun y hy e => (ok.free y hy e).elim (fun k => I.ok.has _ (.inl k)) (fun k => I.ok.has _ (.inr k))
  refine wpAny_comprehension_free (use := none) rfl hs (closure_ok cl) ok.kind (fun y hy e => by rw [ok.uniq y hy, e]) (thn (hi.run pins s σ H _ I h) fun xv s1 hx => thn hx fun itv s2 h2 => ?_)
  obtain ⟨it, fp, tn, J, H2, e, I2, T, st2, f2, q⟩ := h2
  subst e
  refine wpAny_newObj_type (newEnv_comp ?_)
  generalize hD : s2.heap.objs.size = D
  obtain ⟨W, ⟨m0, w0⟩, turn⟩ := q D (I2.hok.fresh (Nat.le_of_eq hD))
  -- the new dict
  have h3 : ∃ s3 : Shared, ({ s2 with heap := s2.heap.push { cls := .type "dict", data := .dict #[] } } : Shared) = s3 := ⟨_, rfl⟩
  obtain ⟨s3, hs3⟩ := h3
  have hh3 : s3.heap = s2.heap.push { cls := .type "dict", data := .dict #[] } := by rw [← hs3]
  have h4 : ∃ H3, upd H2 D o0 = H3 := ⟨_, rfl⟩
  obtain ⟨H3, hH3⟩ := h4
  have I3 : Inv X pins σ H3 s3 := by
    rw [← hs3, ← hH3]
    refine I2.laid (t' := s2.toks) (fun b o e => Heap.get?_push_of_some _ e) (Nat.le_of_eq hD) ?_
    rw [← hD]
    exact n0.ok s2.heap I2.big
  rw [hH3] at w0
  have lt2 : ∀ b ∈ fp, b < s2.heap.objs.size := fun b hb => let ⟨o, e, _⟩ := T.obj _ _ st2 b hb; Heap.lt_size e
  have f3 : ∀ b ∈ fp, FpOk X pins H3 b ∧ b < s3.heap.objs.size := fun b hb => by
    refine ⟨⟨?_, (f2 b hb).2⟩, by rw [hh3, Heap.size_push]; exact Nat.lt_succ_of_lt (lt2 b hb)⟩
    rw [← hH3, upd_ne (by rw [← hD]; exact Nat.ne_of_lt (lt2 b hb))]
    exact (f2 b hb).1
  have I4 := block_start I3 ok hN f3
  rw [hs3]
  show codeAny _ _ (.compStart (.DictComp kx vx [⟨tg, iter, ifs, 0⟩] scope pos) 0 (.ref it) (.ref D) (compEnvC scope (cellsFrom (s3.heap.objs.size + 1) scope.names (cloFrom X.env.cells scope.names [])) s3.heap.objs.size X.env)) (compPost (model X.prog X.w) X.A X.xe none _ (.ref D) s3.heap.objs.size) { s3 with heap := pushCells (s3.heap.push { cls := .type "dict", data := .dict #[] }) scope.names }
  have pg := hg s3 H3 s3.heap.objs.size (cellsFrom (s3.heap.objs.size + 1) scope.names (cloFrom X.env.cells scope.names [])) fp
  have pt := ht s3 H3 s3.heap.objs.size (cellsFrom (s3.heap.objs.size + 1) scope.names (cloFrom X.env.cells scope.names [])) fp
  have pk := hk s3 H3 s3.heap.objs.size (cellsFrom (s3.heap.objs.size + 1) scope.names (cloFrom X.env.cells scope.names [])) fp
  have pv := hv s3 H3 s3.heap.objs.size (cellsFrom (s3.heap.objs.size + 1) scope.names (cloFrom X.env.cells scope.names [])) fp
  generalize hce : compEnvC scope (cellsFrom (s3.heap.objs.size + 1) scope.names (cloFrom X.env.cells scope.names [])) s3.heap.objs.size X.env = ce at I4 pg pt pk pv ⊢
  have cL : ce.locals = s3.heap.objs.size := by rw [← hce]; rfl
  have st4 : tn 0 (pushCells (s3.heap.push { cls := .type "dict", data := .dict #[] }) scope.names) := T.keep _ _ _ st2 fun b _ o e => pushCells_keeps _ _ _ _ (Heap.get?_push_of_some _ (by rw [hh3]; exact Heap.get?_push_of_some _ e))
  generalize hs4 : ({ s3 with heap := pushCells (s3.heap.push { cls := .type "dict", data := .dict #[] }) scope.names } : Shared) = s4 at I4 ⊢
  have st4' : tn 0 s4.heap := by rw [← hs4]; exact st4
  have stat : ∀ {σ' : L2.St} {H' : Hp} {s' : Shared}, Inv (X.blk s3 H3 scope ce fp) [] σ' H' s' → (∀ b ∈ fp, H' b = none) → ∀ b ∈ fp, FpOk (X.blk s3 H3 scope ce fp) [] H' b := fun I' hn b hb =>
    ⟨hn b hb, (I'.ok.exf b hb).1, I'.ok.exfs b hb, .inl hb, fun x c e => (I'.ok.exf b hb).2 x c e, fun p hp => by cases hp⟩
  have loop : codeAny (model X.prog X.w) X.A (.compLoop (.DictComp kx vx [⟨tg, iter, ifs, 0⟩] scope pos) 0 (.ref it) (.ref D) ce) (compPost (model X.prog X.w) X.A X.xe none (EP X pins σ Q) (.ref D) s3.heap.objs.size) s4 := by
    refine compLoop_anyD (fun n s' => ∃ i H', Inv (X.blk s3 H3 scope ce fp) [] (wipe σ (own.map (·.2))) H' s' ∧ tn i s'.heap ∧ (∀ b ∈ fp, H' b = none) ∧ W i n H') ?_ m0 ⟨0, H3, I4, st4', fun b hb => (f3 b hb).1.1, w0⟩
    rintro n s5 ⟨i, H5, I5, st5, n5, w5⟩
    rcases turn i n H5 w5 with ⟨stop, qq⟩ | ⟨go, Nx, hNx, step⟩
    · refine thnF (T.done (X.blk s3 H3 scope ce fp) rfl rfl rfl hc i [] s5 _ H5 (fun _ _ => False) I5 (stat I5 n5) st5 stop) fun r s6 ⟨hr, I6⟩ => ?_
      subst hr
      have I7 : Inv X pins σ H5 s6 := I3.call' (ch := fp) I6.os I6.base I6.hok I6.bare fun b hb => ⟨(f3 b hb).1.2.2.2.1, (f3 b hb).1.2.1, (f3 b hb).1.2.2.2.2.1, (f3 b hb).1.2.2.2.2.2⟩
      have nC : H5 s3.heap.objs.size = none := by rw [← cL]; exact I6.free
      obtain ⟨m, hn, _⟩ := I6.loc
      obtain ⟨a0, a1, a2, a3, a4, a5⟩ := I3.fpOk (Nat.le_refl _) nC
      refine ⟨m, by rw [← cL]; exact hn, fun h'' sb => ?_⟩
      exact ⟨.ref D, H5, I7.turned (t' := s6.toks) (fun b o hb e => (sb.2 b hb).trans e) a0 a1 a3 a4 a5, rfl, qq⟩
    · refine thnF (T.item (X.blk s3 H3 scope ce fp) rfl rfl rfl hc i [] s5 _ H5 (fun _ _ => False) I5 (stat I5 n5) st5 go) fun r s6 ⟨u, hr, h6⟩ => ?_
      subst hr
      refine thnF h6 fun _ s7 ⟨x, H7, I7, r7, y7, st7, n7⟩ => ?_
      refine thnF (pg.run _ s7 _ H7 x u _ (I7.pinned (stat I7 n7) (T.obj _ _ st7)) r7 (step x H7 y7)) fun _ s8 ⟨σ8, H8, I8, hw8, q8⟩ => ?_
      refine thnF (pt.run _ s8 σ8 H8 _ I8 q8) fun b s9 ⟨H9, I9, q9⟩ => ?_
      have fin : ∀ {s' : Shared} {H' : Hp}, Inv (X.blk s3 H3 scope ce fp) ([] ++ pinsAt fp s7.heap) σ8 H' s' → Nx H' → ∃ m, m < n ∧ ∃ i H', Inv (X.blk s3 H3 scope ce fp) [] (wipe σ (own.map (·.2))) H' s' ∧ tn i s'.heap ∧ (∀ b ∈ fp, H' b = none) ∧ W i m H' := fun {s' H'} I' nx => by
        obtain ⟨m', hm, w'⟩ := hNx H' nx
        have pin' : ∀ b ∈ fp, ∀ o, s7.heap.get? b = some o → s'.heap.get? b = some o ∧ H' b = none := fun b hb o e =>
          let z := I'.pin (b, o) (List.mem_append_right _ (List.mem_append_right _ (mem_pinsAt hb e)))
          ⟨z.1, z.2.1⟩
        refine ⟨m', hm, i + 1, H', (I'.unpinned (pins := [])).weak (by rw [← hw8, wipe_length]) (fun j v e => (wipe_some (by rw [hw8]; exact e)).1), T.keep _ _ _ st7 fun b hb o e => (pin' b hb o e).1, fun b hb => ?_, w'⟩
        obtain ⟨o, e, _⟩ := T.obj _ _ st7 b hb
        exact (pin' b hb o e).2
      cases b with
      | false => exact fin I9 q9
      | true =>
        refine thnF (pk.run _ s9 σ8 H9 _ I9 q9) fun z s10 ⟨yk, H10, I10, r10, q10⟩ => ?_
        refine thnF (pv.run _ s10 σ8 H10 _ I10 q10) fun z2 s11 ⟨yv, H11, I11, r11, H12, dp, nx⟩ => ?_
        exact put_by (X := X.blk s3 H3 scope ce fp) hu I11 dp r10 r11 fun s12 I12 => fin I12 nx
  exact codeAny_compStart_dict loop (T.self X.A 0 _ _ _ st4' loop)
/-- the turns of such a comprehension -/
theorem dcG_it {J : It} {n : Nat} {G : Hp → Prop} {Y : Nat → Hp → V → Hp → Prop} (w : L2.Walk J n G Y) {o0 : HO} {g : TG} {tt : TT} {tk tv : TE} {vs : List Nat} {σ : L2.St} {H1 : Hp} {D : Addr} {Qd : Hp → Prop} (Pv : Nat → Hp → Prop) (h0 : Pv 0 (upd H1 D o0)) (hG : ∀ i H, i ≤ n → Pv i H → G H)
    (hs : ∀ i x H H', i < n → Pv i H → Y i H x H' → DcStep g tt tk tv vs σ D (Pv (i + 1)) x H') (hd : ∀ H, Pv n H → Qd H) :
    ∃ W : Nat → Nat → Hp → Prop, (∃ m, W 0 m (upd H1 D o0)) ∧ ∀ i m H, W i m H → (J.stop i H ∧ Qd H) ∨ (J.go i H ∧ ∃ Nx : Hp → Prop, (∀ H', Nx H' → ∃ m', m' < m ∧ W (i + 1) m' H') ∧ ∀ x H', J.yld i H x H' → DcStep g tt tk tv vs σ D Nx x H') := by
  refine ⟨fun i m H => m + i = n ∧ Pv i H, ⟨n, rfl, h0⟩, fun i m H ⟨hm, p⟩ => ?_⟩
  have q := hG i H (by omega) p
  cases m with
  | zero =>
    have e : i = n := by omega
    subst e
    exact .inl ⟨w.stops H q, hd H p⟩
  | succ m => exact .inr ⟨w.goes i H (by omega) q, Pv (i + 1), fun H' p' => ⟨m, Nat.lt_succ_self m, by omega, p'⟩, fun x H' y => hs i x H H' (by omega) p (w.yields i H x H' (by omega) q y)⟩
end
end EL
namespace EL
open PySem PySem.Spec PyProof.Rows L2 He TL
/-! ### what may change: the objects in S; tuples never -/
def Rig : HO → Bool
  | .tup _ => true
  | .frz _ _ => true
  | _ => false
structure Md (S : List Addr) (H H' : Hp) : Prop where
  out : ∀ b o, H b = some o → b ∉ S → H' b = some o
  rig : ∀ b o, H b = some o → Rig o = true → H' b = some o
section
variable {S S' : List Addr} {H H1 H2 : Hp} {K : PySem.W.Frag} {a p : Addr} {o o' : HO}
theorem Md.refl (S : List Addr) (H : Hp) : Md S H H := ⟨fun _ _ h _ => h, fun _ _ h _ => h⟩
theorem Md.of (s : Same H H1) : Md S H H1 := ⟨fun b o h _ => s b o h, fun b o h _ => s b o h⟩
theorem Md.trans (x : Md S H H1) (y : Md S H1 H2) : Md S H H2 := ⟨fun b o h n => y.out b o (x.out b o h n) n, fun b o h r => y.rig b o (x.rig b o h r) r⟩
theorem Md.mono (x : Md S H H1) (h : ∀ b ∈ S, b ∈ S') : Md S' H H1 := ⟨fun b o e n => x.out b o e fun z => n (h b z), x.rig⟩
theorem Md.upd (e : H a = some o) (r : Rig o = false) (m : a ∈ S) : Md S H (upd H a o') :=
  ⟨fun b u h n => (upd_ne (fun z : b = a => n (by rw [z]; exact m))).trans h, fun b u h ru => (upd_ne (fun z : b = a => by rw [z, e] at h; cases h; rw [r] at ru; cases ru)).trans h⟩
/-- what is new is not seen from before -/
theorem Md.new (x : Md (p :: S) H1 H2) (s : Same H H1) (n : H p = none) : Md S H H2 :=
  ⟨fun b u h m => x.out b u (s b u h) (fun z => (List.mem_cons.mp z).elim (fun z => ne_of_none h n z) m), fun b u h r => x.rig b u (s b u h) r⟩
theorem Md.newM (x : Md (p :: S) H1 H2) (s : Md S H H1) (n : H p = none) : Md S H H2 :=
  ⟨fun b u h m => x.out b u (s.out b u h m) (fun z => (List.mem_cons.mp z).elim (fun z => ne_of_none h n z) m), fun b u h r => x.rig b u (s.rig b u h r) r⟩
theorem Md.same (x : Md [] H H1) : Same H H1 := fun b o h => x.out b o h (by simp)
theorem But.md (b : But p H H1) (e : H p = some o) (r : Rig o = false) : Md [p] H H1 :=
  ⟨fun c u h n => b c u h (fun z => n (by rw [z]; simp)), fun c u h ru => b c u h (fun z => by rw [z, e] at h; cases h; rw [r] at ru; cases ru)⟩
theorem Md.but (x : Md [p] H H1) : But p H H1 := fun b o h n => x.out b o h (by simp [n])
theorem Md.sqT (x : Md S H H1) {xs : List V} (h : SqT K H a xs) : SqT K H1 a xs := by
  rcases h with (h | ⟨o, h⟩) | h
  · exact .inl (.inl (x.rig _ _ h rfl))
  · exact .inl (.inr ⟨o, x.rig _ _ h rfl⟩)
  · exact .inr h
end
mutual
def noL : PyData → Bool
  | .list _ => false
  | .dict _ => false
  | .tuple xs => noLs xs
  | .none => true
  | .bool _ => true
  | .int _ => true
  | .str _ => true
def noLs : List PyData → Bool
  | [] => true
  | x :: r => noL x && noLs r
end
mutual
theorem Md.dp {S : List Addr} {K : PySem.W.Frag} {H H' : Hp} (s : Md S H H') : ∀ {d : PyData} {v : V}, noL d = true → Dp K H v d → Dp K H' v d
  | _, _, _, .non => .non
  | _, _, _, .bl b => .bl b
  | _, _, _, .int i => .int i
  | _, _, _, .str x => .str x
  | _, _, n, .lst h a => by cases n
  | _, _, n, .tup h a => .tup (s.sqT h) (Md.dpAll s n a)
theorem Md.dpAll {S : List Addr} {K : PySem.W.Frag} {H H' : Hp} (s : Md S H H') : ∀ {ds : List PyData} {vs : List V}, noLs ds = true → DpAll K H vs ds → DpAll K H' vs ds
  | _, _, _, .nil => .nil
  | _, _, n, .cons a b => .cons (Md.dp s (Bool.and_eq_true_iff.mp n).1 a) (Md.dpAll s (Bool.and_eq_true_iff.mp n).2 b)
end
/-- data without lists, laid and not deep -/
structure Pd (d : PyData) : Prop where
  nl : noL d = true
  cl : d.canLay0 = true
  dp : d.depth ≤ 16
theorem Pd.shaped {d : PyData} (h : Pd d) : SeqAt.shaped d = true := Bool.and_eq_true_iff.mpr ⟨h.cl, decide_eq_true (Nat.le_trans h.dp (by decide))⟩
def Pds (ds : List PyData) : Prop := ∀ d ∈ ds, Pd d
theorem Pds.nl : ∀ {ds : List PyData}, Pds ds → noLs ds = true
  | [], _ => rfl
  | d :: r, h => Bool.and_eq_true_iff.mpr ⟨(h d (by simp)).nl, Pds.nl fun x hx => h x (by simp [hx])⟩
theorem Pds.cl : ∀ {ds : List PyData}, Pds ds → PyData.canLayAll0 ds = true
  | [], _ => rfl
  | d :: r, h => Bool.and_eq_true_iff.mpr ⟨(h d (by simp)).cl, Pds.cl fun x hx => h x (by simp [hx])⟩
theorem Pds.dp : ∀ {ds : List PyData}, Pds ds → PyData.depthAll ds ≤ 16
  | [], _ => Nat.zero_le _
  | d :: r, h => Nat.max_le.mpr ⟨(h d (by simp)).dp, Pds.dp fun x hx => h x (by simp [hx])⟩
theorem Pds.shaped {ds : List PyData} (h : Pds ds) : SeqAt.shaped (.list ds) = true := Bool.and_eq_true_iff.mpr ⟨h.cl, decide_eq_true (by show PyData.depthAll ds + 1 ≤ 64; have := h.dp; omega)⟩
theorem Pds.snoc {ds : List PyData} {d : PyData} (h : Pds ds) (k : Pd d) : Pds (ds ++ [d]) := fun x hx => (List.mem_append.mp hx).elim (h x) fun z => by cases List.mem_singleton.mp z; exact k
theorem Pds.refl {ds : List PyData} (h : Pds ds) : PyData.eqv (.list ds) (.list ds) = true := SeqAt.eqv_refl _ h.cl
theorem DpAll.snoc {K : PySem.W.Frag} {H : Hp} {v : V} {d : PyData} (k : Dp K H v d) : ∀ {ds : List PyData} {vs : List V}, DpAll K H vs ds → DpAll K H (vs ++ [v]) (ds ++ [d])
  | _, _, .nil => .cons k .nil
  | _, _, .cons a b => .cons a (DpAll.snoc k b)
theorem DpAll.get {K : PySem.W.Frag} {H : Hp} : ∀ {ds : List PyData} {vs : List V} {i : Nat} {v : V}, DpAll K H vs ds → vs[i]? = some v → ∃ d, ds[i]? = some d ∧ Dp K H v d
  | _, _, 0, _, .cons a b, e => by cases e; exact ⟨_, rfl, a⟩
  | _, _, i + 1, _, .cons a b, e => DpAll.get (i := i) b e
/-! ### a caught error that has a dict: isinstance, where the answer is yes -/
theorem kit_yes {K : PySem.W.Frag} {x t c : Value} {Hq : Heap → Prop} (ty : ∀ (M : Model) (h : Heap), K.In h → Hq h → PySem.W.Looks M h (typeOf x) t) (e : PySem.W.kitOne K t c = some true) : Answers (fun s => K.In s.heap ∧ Hq s.heap) x c true := by
  intro dep tk prog w A R s hs
  obtain ⟨⟨X, p⟩, hq⟩ := hs
  obtain ⟨h0, g, d, tt, os⟩ := s
  have LT := ty (model prog w) h0 X p
  unfold PySem.W.kitOne at e
  unfold Builtin.«isinstance.nested»
  refine wpAny_bind (LT.at ?_)
  by_cases q : (t == c) = true
  · rw [if_pos q]
    first
      | exact wpAny_bind (wpAny_rule (hq tt))
      | exact wpAny_bind (wpAny_rule (wpAny_pure (hq tt)))
      | exact wpAny_pure (hq tt)
      | exact wpAny_bind (wpAny_pure (hq tt))
  · rw [if_neg q] at e
    rw [if_neg q]
    obtain ⟨k1, k2, k3⟩ := PySem.W.kit_cls (M := model prog w) X e
    refine wpAny_bind (k1.at ?_)
    rw [if_pos (by decide)]
    k_delta "plainIsInstance"
    refine wpAny_bind (wpAny_bind (k2.at ?_))
    simp only [Bool.not_true, Bool.false_eq_true, if_false]
    refine wpAny_bind ((LT.andThen k3).at ?_)
    first
      | exact wpAny_pure (wpAny_pure (hq tt))
      | (simp only [if_true]; first | exact wpAny_pure (wpAny_pure (hq tt)) | exact wpAny_pure (hq tt) | exact wpAny_bind (wpAny_pure (wpAny_pure (hq tt))))
def rIsY (K : PySem.W.Frag) (cls : Value) (a : Addr) : List V → Hp → VK → Prop := fun xs H Q => ∃ (c : V) (cv : Value), xs = [.ref a, c] ∧ (∀ u, RelV c u → u = cv) ∧ PySem.W.kitOne K cls cv = some true ∧ Q (.bl true) H
theorem call_isY {X : Cx} {a : Addr} {oe : Obj} {pn : List (Addr × Obj)} {cls : Value} {d : Option Addr} (hz : Zc cls d oe) : CallR (X.suite a ((a, oe) :: pn)) (.builtin "isinstance") (rIsY X.K cls a) := by
  intro pins s σ H xs us Q I r h
  obtain ⟨c, cv, rfl, hcv, e, q⟩ := h
  cases r with
  | cons rx rr =>
    cases rr with
    | cons rt rr =>
      cases rr
      cases rx
      cases hcv _ rt
      obtain ⟨hget, _⟩ := I.pin (a, oe) (List.mem_append.mpr (.inl List.mem_cons_self))
      refine call_isinstance (S := fun _ R s => (X.K.In s.heap ∧ s.heap.get? a = some oe) ∧ ∀ tk, R (.ok (.ret (.bool true))) { s with toks := tk })
        (fun prog w A R s hs => isinstance_outer (kit_yes (Hq := fun h => h.get? a = some oe) (t := cls) (fun M h _ e0 A Q E s k q => wpAny_typeOf_ref (k _ _ e0) (by rw [hz.1]; exact q)) e 0 _ prog w A R s hs) (fun z => nomatch z)) ⟨⟨I.kIn, hget⟩, fun tk => ?_⟩
      exact ⟨.bl true, H, I.kept (t' := tk) fun _ _ z => z, rfl, q⟩
/-! ### defs with defaults at any address -/
theorem fnD {P : Program} {w : World} {K : PySem.W.Frag} {mg : Str → Option Value} {base : Heap} {CX : CXT} {k : Nat} {x qual : Str} {sp : Sp} {params : Arguments} {body : List Stmt} {scope : Scope} {f : Addr} {fd : FuncData} {ps : List Str} {dvs : List V}
    (F : FunD K x qual params body scope dvs [] f fd) (ok : FnOk P w K mg base CX k f fd ps sp) (n j : Nat) (hd : dvs ≠ []) (hn : n + (dvs.length - j) = ps.length)
    (h : ∀ (T : Addr) (kV doc pm : Value) (an : Option Addr) (cdv ct : Value) (us its : List Value), us.length = n → its.length = dvs.length →
      ∃ k, bindArgs (PySem.W.fnOf x qual params body scope (.ref T) kV doc pm an cdv ct) ⟨us, []⟩ = seqItems? (.ref T) >>= k ∧ k (some its.toArray) = pure (ps.zip (us ++ its.drop j))) :
    FnR P w K mg base CX k f (fun vs H Q E => sp (vs ++ dvs.drop j) H Q E) := by
  obtain ⟨ds, h1, h2⟩ := F.binds1 n j hd hn h
  exact ok.raw h2 h1
/-- C() by an __init__ whose parameters all have defaults -/
theorem pe_makeE0 {X : Cx} {CX : CXT} {k : Nat} {C f : Addr} {x : Str} {sp : Sp} {E : L2.St → XK} {p pos : Pos} (M : Mk X.K C f) (F : FnR X.prog X.w X.K X.mg X.base CX k f sp) (hr : Room (k + 1) X.A) (hm : X.mg x = some (.ref C)) (hx : ∀ σ, PassesAt CX X σ (E σ)) (hg : Gl X x := by rfl) (hdb : (x == ("__debug__" : Str)) = false := by decide) :
    PE X (.Call (.Name x p) [] [] pos) (tMakeE C sp E tNil) := by
  refine ⟨fun pins s σ H Q I h => ?_⟩
  refine wpAny_Call_Name_kw (ld_glob I hg hm ?_ hdb)
  exact PySem.W.callWith_K0 (first := []) I.kIn M.kp (run_makeE (us := []) (vs := []) M F hr (hx σ) I .nil h)
def tupAB (K : PySem.W.Frag) (a : Addr) : Bool := match K.lookup a with
  | some ⟨.type c, _, .seq its _, _⟩ => decide (c = "tuple") && decide (its = #[])
  | _ => false
theorem tupAB_ok {K : PySem.W.Frag} {a : Addr} (h : tupAB K a = true) (H : Hp) : SqT K H a [] := by
  unfold tupAB at h
  split at h
  · rename_i c od its n osl q
    obtain ⟨h1, h2⟩ := ba h
    have e2 := of_decide_eq_true h2
    subst e2
    exact .inr ⟨_, #[], n, q, congrArg Value.type (of_decide_eq_true h1), rfl, by decide, .nil⟩
  · cases h
theorem tYes_of {σ : L2.St} {H : Hp} {F G : Hp → Prop} (h : F H) : tYes σ H fun b H3 => if b = true then F H3 else G H3 := by
  show if true = true then F H else G H
  rw [if_pos rfl]
  exact h
/-- try .. except X: with a name for its reading (a loop's body) -/
def tTryO (K : PySem.W.Frag) (c : Value) (ts : Addr → Value → Option Addr → TS) (Wout : WX) (tb : WX → TS) : TS := fun D σ H => tb (wOnly K c ts Wout D) D σ H
theorem ps_tryO {X : Cx} {x : Str} {c : Value} {body suite : List Stmt} {b₀ : Stmt} {np pos pos' : Pos} {tb : WX → TS} {ts : Addr → Value → Option Addr → TS} {Wout : WX} (hs : X.stack = X.env :: X.outer) (hf : X.env.frame = some X.env.locals) (hc : Names X x c) (tk : Takes X Wout)
    (hb : ∀ (W : WX) (pn : List (Addr × Obj)) (xe : Value → Shared → Prop), Takes (X.tr pn xe) W → PassesOwn (model X.prog X.w) X.A X.env xe → PSs (X.tr pn xe) body (tb W))
    (hsu : ∀ (a : Addr) (oe : Obj) (cls : Value) (d : Option Addr) (pn : List (Addr × Obj)), Zc cls d oe → (∃ vs, oe.data = .fields vs) → PSs (X.suite a ((a, oe) :: pn)) (b₀ :: suite) (ts a cls d)) :
    PS X (.Try body [.ExceptHandler (some (.Name x np)) none (b₀ :: suite) pos'] [] [] pos) (tTryO X.K c ts Wout tb) := ps_try_only hs hf hc tk hb hsu
end EL
namespace K06
open PySem PySem.Spec PyProof.Rows L2 He TL EL
def topS (i : Nat) : Stmt := PySem.Challenge.pw_endlessasks_k06_points_and_demands.main.body.getD i (.Pass ⟨0, 0, 0, 0⟩)
abbrev s_NoPoint___init__ : Stmt := (inClass (topS 5) 0)
def xw_NoPoint : EL.DefX := ⟨"NoPoint", "number", s_NoPoint___init__⟩
theorem xwok_NoPoint : EL.XW xw_NoPoint := ⟨⟨fun _ _ _ _ _ _ _ _ _ _ _ => rfl, ⟨_, rfl, rfl⟩, rfl, rfl, rfl, rfl, rfl, by decide +kernel, rfl, rfl, by decide +kernel, by decide +kernel⟩, ⟨_, _, _, _, _, _, _, _, _, _, _, _, rfl, by decide⟩⟩
abbrev s__wall : Stmt := (topS 0)
abbrev s_is_whole : Stmt := (topS 8)
abbrev s_common_divisor : Stmt := (topS 9)
abbrev s_is_value : Stmt := (topS 10)
abbrev s_Web___init__ : Stmt := (inClass (topS 12) 0)
abbrev s_Web___len__ : Stmt := (inClass (topS 12) 1)
abbrev s_Web_point : Stmt := (inClass (topS 12) 2)
abbrev s_Web_fixed : Stmt := (inClass (topS 12) 3)
abbrev s_Web_look : Stmt := (inClass (topS 12) 4)
abbrev s_Web_demand : Stmt := (inClass (topS 12) 5)
abbrev s_Web_demands : Stmt := (inClass (topS 12) 6)
abbrev s_Web_twin : Stmt := (inClass (topS 12) 7)
abbrev s__law_begin : Stmt := (topS 14)
abbrev s__law_draw : Stmt := (topS 15)
abbrev s__law_state : Stmt := (topS 16)
abbrev s__law_demanded : Stmt := (topS 17)
abbrev s__law_due : Stmt := (topS 18)
abbrev s__law_number : Stmt := (topS 19)
abbrev s__law_told : Stmt := (topS 20)
abbrev s__law_fixed : Stmt := (topS 21)
abbrev s__law_deed : Stmt := (topS 22)
abbrev s__law_odd : Stmt := (topS 23)
abbrev s_law : Stmt := (topS 24)
theorem sc__wall : FnScope ["k"] ["k"] (defScope s__wall) := ⟨rfl, rfl, rfl, by decide +kernel, rfl, by decide +kernel, by decide +kernel⟩
theorem sc_is_whole : FnScope ["thing"] ["thing"] (defScope s_is_whole) := ⟨rfl, rfl, rfl, by decide +kernel, rfl, by decide +kernel, by decide +kernel⟩
theorem sc_common_divisor : FnScope ["one", "other"] ["one", "other"] (defScope s_common_divisor) := ⟨rfl, rfl, rfl, by decide +kernel, rfl, by decide +kernel, by decide +kernel⟩
theorem sc_is_value : FnScope ["thing"] ["thing"] (defScope s_is_value) := ⟨rfl, rfl, rfl, by decide +kernel, rfl, by decide +kernel, by decide +kernel⟩
theorem sc_Web___init__ : FnScope ["self", "worths", "wants", "known", "worth"] ["self", "worths", "wants", "known"] (defScope s_Web___init__) := ⟨rfl, rfl, rfl, by decide +kernel, rfl, by decide +kernel, by decide +kernel⟩
theorem sc_Web___len__ : FnScope ["self"] ["self"] (defScope s_Web___len__) := ⟨rfl, rfl, rfl, by decide +kernel, rfl, by decide +kernel, by decide +kernel⟩
theorem sc_Web_point : FnScope ["self"] ["self"] (defScope s_Web_point) := ⟨rfl, rfl, rfl, by decide +kernel, rfl, by decide +kernel, by decide +kernel⟩
theorem sc_Web_fixed : FnScope ["self", "worth"] ["self", "worth"] (defScope s_Web_fixed) := ⟨rfl, rfl, rfl, by decide +kernel, rfl, by decide +kernel, by decide +kernel⟩
theorem sc_Web_look : FnScope ["self", "sign", "one", "other", "number"] ["self", "sign", "one", "other"] (defScope s_Web_look) := ⟨rfl, rfl, rfl, by decide +kernel, rfl, by decide +kernel, by decide +kernel⟩
theorem sc_Web_demand : FnScope ["self", "sign", "one", "other"] ["self", "sign", "one", "other"] (defScope s_Web_demand) := ⟨rfl, rfl, rfl, by decide +kernel, rfl, by decide +kernel, by decide +kernel⟩
theorem sc_Web_demands : FnScope ["self"] ["self"] (defScope s_Web_demands) := ⟨rfl, rfl, rfl, by decide +kernel, rfl, by decide +kernel, by decide +kernel⟩
theorem sc_Web_twin : FnScope ["self"] ["self"] (defScope s_Web_twin) := ⟨rfl, rfl, rfl, by decide +kernel, rfl, by decide +kernel, by decide +kernel⟩
theorem sc__law_begin : FnScope ["_law_script"] ["_law_script"] (defScope s__law_begin) := ⟨rfl, rfl, rfl, by decide +kernel, rfl, by decide +kernel, by decide +kernel⟩
theorem sc__law_draw : FnScope ["_law_source", "_law_limit", "_law_cell", "_law_digit"] ["_law_source", "_law_limit"] (defScope s__law_draw) := ⟨rfl, rfl, rfl, by decide +kernel, rfl, by decide +kernel, by decide +kernel⟩
theorem sc__law_state : FnScope ["_law_points", "_law_turn"] ["_law_points"] (defScope s__law_state) := ⟨rfl, rfl, rfl, by decide +kernel, rfl, by decide +kernel, by decide +kernel⟩
theorem sc__law_demanded : FnScope ["_law_web", "_law_sign", "_law_one", "_law_other", "e"] ["_law_web", "_law_sign", "_law_one", "_law_other"] (defScope s__law_demanded) := ⟨rfl, rfl, rfl, by decide +kernel, rfl, by decide +kernel, by decide +kernel⟩
theorem sc__law_due : FnScope ["_law_sign", "_law_one", "_law_other", "_law_many", "_law_number_here"] ["_law_sign", "_law_one", "_law_other", "_law_many"] (defScope s__law_due) := ⟨rfl, rfl, rfl, by decide +kernel, rfl, by decide +kernel, by decide +kernel⟩
theorem sc__law_number : FnScope ["_law_source", "_law_many", "_law_kind"] ["_law_source", "_law_many"] (defScope s__law_number) := ⟨rfl, rfl, rfl, by decide +kernel, rfl, by decide +kernel, by decide +kernel⟩
theorem sc__law_told : FnScope ["_law_web", "_law_state_here", "_law_listed"] ["_law_web", "_law_state_here"] (defScope s__law_told) := ⟨rfl, rfl, rfl, by decide +kernel, rfl, by decide +kernel, by decide +kernel⟩
theorem sc__law_fixed : FnScope ["_law_web", "_law_state_here", "_law_worth", "_law_number_here", "_law_due_here"] ["_law_web", "_law_state_here", "_law_worth"] (defScope s__law_fixed) := ⟨rfl, rfl, rfl, by decide +kernel, rfl, by decide +kernel, by decide +kernel⟩
theorem sc__law_deed : FnScope ["_law_source", "_law_web", "_law_state_here", "_law_kind", "_law_number_here", "_law_worth", "_law_sign", "_law_one", "_law_other", "_law_due_here"] ["_law_source", "_law_web", "_law_state_here"] (defScope s__law_deed) := ⟨rfl, rfl, rfl, by decide +kernel, rfl, by decide +kernel, by decide +kernel⟩
theorem sc__law_odd : FnScope ["_law_web", "_law_refused", "_law_odd_here"] ["_law_web"] (defScope s__law_odd) := ⟨rfl, rfl, rfl, by decide +kernel, rfl, by decide +kernel, by decide +kernel⟩
theorem sc_law : FnScope ["_law_script", "_law_source", "_law_webs", "_law_states", "_law_parting", "_law_turn", "_law_at"] ["_law_script"] (defScope s_law) := ⟨rfl, rfl, rfl, by decide +kernel, rfl, by decide +kernel, by decide +kernel⟩
structure Txt (K : PySem.W.Frag) (mg : Str → Option Value) : Prop where
  g__wall : mg "_wall" = some (.ref (ga K "_wall"))
  g_is_whole : mg "is_whole" = some (.ref (ga K "is_whole"))
  g_common_divisor : mg "common_divisor" = some (.ref (ga K "common_divisor"))
  g_is_value : mg "is_value" = some (.ref (ga K "is_value"))
  g__law_begin : mg "_law_begin" = some (.ref (ga K "_law_begin"))
  g__law_draw : mg "_law_draw" = some (.ref (ga K "_law_draw"))
  g__law_state : mg "_law_state" = some (.ref (ga K "_law_state"))
  g__law_demanded : mg "_law_demanded" = some (.ref (ga K "_law_demanded"))
  g__law_due : mg "_law_due" = some (.ref (ga K "_law_due"))
  g__law_number : mg "_law_number" = some (.ref (ga K "_law_number"))
  g__law_told : mg "_law_told" = some (.ref (ga K "_law_told"))
  g__law_fixed : mg "_law_fixed" = some (.ref (ga K "_law_fixed"))
  g__law_deed : mg "_law_deed" = some (.ref (ga K "_law_deed"))
  g__law_odd : mg "_law_odd" = some (.ref (ga K "_law_odd"))
  g_law : mg "law" = some (.ref (ga K "law"))
  g_NoPoint : mg "NoPoint" = some (.ref (ga K "NoPoint"))
  g_Web : mg "Web" = some (.ref (ga K "Web"))
  x_AskError : XC K mg "AskError"
  x_NoValue : XC K mg "NoValue"
  x_NoCondition : XC K mg "NoCondition"
  g_SIGNS : mg "SIGNS" = some (.ref (ga K "SIGNS"))
  z_ValueError : mg "ValueError" = none
  z_super : mg "super" = none
  z_isinstance : mg "isinstance" = none
  z_int : mg "int" = none
  z_bool : mg "bool" = none
  z_abs : mg "abs" = none
  z_tuple : mg "tuple" = none
  z_len : mg "len" = none
  z_list : mg "list" = none
  z_str : mg "str" = none
  z_range : mg "range" = none
  e_NoCondition_NoCondition : PySem.W.exmOne K (.ref (ga K "NoCondition")) (.ref (ga K "NoCondition")) = some true
  e_NoPoint_NoCondition : PySem.W.exmOne K (.ref (ga K "NoPoint")) (.ref (ga K "NoCondition")) = some false
  e_NoPoint_NoPoint : PySem.W.exmOne K (.ref (ga K "NoPoint")) (.ref (ga K "NoPoint")) = some true
  e_NoValue_NoValue : PySem.W.exmOne K (.ref (ga K "NoValue")) (.ref (ga K "NoValue")) = some true
  m_Web : Mk K (ga K "Web") (ma K (ga K "Web") "__init__")
  h_Web___len__ : Meth K (ga K "Web") "__len__" (ma K (ga K "Web") "__len__")
  h_Web_point : Meth K (ga K "Web") "point" (ma K (ga K "Web") "point")
  h_Web_fixed : Meth K (ga K "Web") "fixed" (ma K (ga K "Web") "fixed")
  h_Web_look : Meth K (ga K "Web") "look" (ma K (ga K "Web") "look")
  h_Web_demand : Meth K (ga K "Web") "demand" (ma K (ga K "Web") "demand")
  h_Web_demands : Meth K (ga K "Web") "demands" (ma K (ga K "Web") "demands")
  h_Web_twin : Meth K (ga K "Web") "twin" (ma K (ga K "Web") "twin")
  n_Web_worths : NoAttr K (ga K "Web") "worths"
  n_Web_wants : NoAttr K (ga K "Web") "wants"
  n_Web_known : NoAttr K (ga K "Web") "known"
  f__wall : ∃ fd, FunD K "_wall" "_wall" (defArgs s__wall) (defBody s__wall) (defScope s__wall) ([] : List V) [] (ga K "_wall") fd
  f_is_whole : ∃ fd, FunD K "is_whole" "is_whole" (defArgs s_is_whole) (defBody s_is_whole) (defScope s_is_whole) ([] : List V) [] (ga K "is_whole") fd
  f_common_divisor : ∃ fd, FunD K "common_divisor" "common_divisor" (defArgs s_common_divisor) (defBody s_common_divisor) (defScope s_common_divisor) ([] : List V) [] (ga K "common_divisor") fd
  f_is_value : ∃ fd, FunD K "is_value" "is_value" (defArgs s_is_value) (defBody s_is_value) (defScope s_is_value) ([] : List V) [] (ga K "is_value") fd
  f_Web___init__ : ∃ fd, FunD K "__init__" "Web.__init__" (defArgs s_Web___init__) (defBody s_Web___init__) (defScope s_Web___init__) ([.ref (dflAt ("Web", some "__init__") 0 K), .ref (dflAt ("Web", some "__init__") 1 K), .non] : List V) [] (ma K (ga K "Web") "__init__") fd
  f_Web___len__ : ∃ fd, FunD K "__len__" "Web.__len__" (defArgs s_Web___len__) (defBody s_Web___len__) (defScope s_Web___len__) ([] : List V) [] (ma K (ga K "Web") "__len__") fd
  f_Web_point : ∃ fd, FunD K "point" "Web.point" (defArgs s_Web_point) (defBody s_Web_point) (defScope s_Web_point) ([] : List V) [] (ma K (ga K "Web") "point") fd
  f_Web_fixed : ∃ fd, FunD K "fixed" "Web.fixed" (defArgs s_Web_fixed) (defBody s_Web_fixed) (defScope s_Web_fixed) ([] : List V) [] (ma K (ga K "Web") "fixed") fd
  f_Web_look : ∃ fd, FunD K "look" "Web.look" (defArgs s_Web_look) (defBody s_Web_look) (defScope s_Web_look) ([] : List V) [] (ma K (ga K "Web") "look") fd
  f_Web_demand : ∃ fd, FunD K "demand" "Web.demand" (defArgs s_Web_demand) (defBody s_Web_demand) (defScope s_Web_demand) ([] : List V) [] (ma K (ga K "Web") "demand") fd
  f_Web_demands : ∃ fd, FunD K "demands" "Web.demands" (defArgs s_Web_demands) (defBody s_Web_demands) (defScope s_Web_demands) ([] : List V) [] (ma K (ga K "Web") "demands") fd
  f_Web_twin : ∃ fd, FunD K "twin" "Web.twin" (defArgs s_Web_twin) (defBody s_Web_twin) (defScope s_Web_twin) ([] : List V) [] (ma K (ga K "Web") "twin") fd
  f__law_begin : ∃ fd, FunD K "_law_begin" "_law_begin" (defArgs s__law_begin) (defBody s__law_begin) (defScope s__law_begin) ([] : List V) [] (ga K "_law_begin") fd
  f__law_draw : ∃ fd, FunD K "_law_draw" "_law_draw" (defArgs s__law_draw) (defBody s__law_draw) (defScope s__law_draw) ([] : List V) [] (ga K "_law_draw") fd
  f__law_state : ∃ fd, FunD K "_law_state" "_law_state" (defArgs s__law_state) (defBody s__law_state) (defScope s__law_state) ([] : List V) [] (ga K "_law_state") fd
  f__law_demanded : ∃ fd, FunD K "_law_demanded" "_law_demanded" (defArgs s__law_demanded) (defBody s__law_demanded) (defScope s__law_demanded) ([] : List V) [] (ga K "_law_demanded") fd
  f__law_due : ∃ fd, FunD K "_law_due" "_law_due" (defArgs s__law_due) (defBody s__law_due) (defScope s__law_due) ([] : List V) [] (ga K "_law_due") fd
  f__law_number : ∃ fd, FunD K "_law_number" "_law_number" (defArgs s__law_number) (defBody s__law_number) (defScope s__law_number) ([] : List V) [] (ga K "_law_number") fd
  f__law_told : ∃ fd, FunD K "_law_told" "_law_told" (defArgs s__law_told) (defBody s__law_told) (defScope s__law_told) ([] : List V) [] (ga K "_law_told") fd
  f__law_fixed : ∃ fd, FunD K "_law_fixed" "_law_fixed" (defArgs s__law_fixed) (defBody s__law_fixed) (defScope s__law_fixed) ([] : List V) [] (ga K "_law_fixed") fd
  f__law_deed : ∃ fd, FunD K "_law_deed" "_law_deed" (defArgs s__law_deed) (defBody s__law_deed) (defScope s__law_deed) ([] : List V) [] (ga K "_law_deed") fd
  f__law_odd : ∃ fd, FunD K "_law_odd" "_law_odd" (defArgs s__law_odd) (defBody s__law_odd) (defScope s__law_odd) ([] : List V) [] (ga K "_law_odd") fd
  f_law : ∃ fd, FunD K "law" "law" (defArgs s_law) (defBody s_law) (defScope s_law) ([] : List V) [] (ga K "law") fd
  dw0 : ∀ H : Hp, SqT K H (dflAt ("Web", some "__init__") 0 K) []
  dw1 : ∀ H : Hp, SqT K H (dflAt ("Web", some "__init__") 1 K) []
  k_NoCondition_AskError : PySem.W.kitOne K (.ref (ga K "NoCondition")) (.ref (ga K "AskError")) = some true
  k_NoPoint_AskError : PySem.W.kitOne K (.ref (ga K "NoPoint")) (.ref (ga K "AskError")) = some true
  o_Web : OC K (ga K "Web")
  t_SIGNS : ∀ H : Hp, SqT K H (ga K "SIGNS") [.str "<", .str "<=", .str "=", .str "!="]
  y_NoPoint : XT K mg "NoPoint" "number" "/claim/cut.py" ∧ XfC K (ga K "NoPoint") ∧ PySem.W.findIn K (.ref (ga K "NoPoint")) "number" = some none
end K06
namespace K06
open PySem PySem.Spec PyProof.Rows L2 He TL EL
section
variable {P : Program} {w : World} {K : PySem.W.Frag} {mg : Str → Option Value} {base : Heap}
/-! is_whole -/
def spIsWhole (K : PySem.W.Frag) : Sp := fun vs H Q _ => ∃ v th, vs = [v] ∧ ThOk K H v th ∧ Q (.bl (isWholeT th)) H
theorem d_is_whole (T : Txt K mg) : Dn P w K mg base CX0 1 "is_whole" (spIsWhole K) := by
  obtain ⟨fd, F⟩ := T.f_is_whole
  refine dnN T.g_is_whole F (fun _ _ _ _ _ _ us hl => match us, hl with | [_], _ => rfl) sc_is_whole (fun vs H Q E h => ?_) (fun cdv A outer s H vs Q E hr h => ?_)
  · obtain ⟨v, th, rfl, _⟩ := h
    rfl
  · obtain ⟨v, th, rfl, ht, q⟩ := h
    obtain ⟨t, ty, ki⟩ := ht.ty
    refine ⟨_, PSs.nox (pss_one (ps_ret (pe_and (pe_callB call_isi (by rfl) T.z_isinstance (by decide +kernel) (pa_cons (pv 0) (pa_cons (pe_bltn (v := .ty "int") (by rfl) T.z_int (by decide +kernel) rfl) pa_nil))) (pe_one (pe_not (pe_callB call_isi (by rfl) T.z_isinstance (by decide +kernel) (pa_cons (pv 0) (pa_cons (pe_bltn (v := .ty "bool") (by rfl) T.z_bool (by decide +kernel) rfl) pa_nil)))))))), ?_⟩
    refine ⟨_, rfl, _, _, t, _, _, rfl, .ty _, ty, ki .int, _, rfl, ie (fun h1 => ?_) (fun h1 => ?_)⟩
    · refine ⟨_, rfl, _, _, t, _, _, rfl, .ty _, ty, ki .bl, _, rfl, ?_⟩
      have e : isWholeT th = !th.is .bl := by unfold isWholeT; rw [h1]; rfl
      rw [e] at q
      exact q
    · have e : isWholeT th = false := by unfold isWholeT; rw [h1]; rfl
      rw [e] at q
      exact q
/-! common_divisor -/
def spCD : Sp := fun vs H Q _ => ∃ a b : Int, vs = [.int a, .int b] ∧ Q (.int (cd a b)) H
theorem d_common_divisor (T : Txt K mg) : Dn P w K mg base CX0 1 "common_divisor" spCD := by
  obtain ⟨fd, F⟩ := T.f_common_divisor
  refine dnN T.g_common_divisor F (fun _ _ _ _ _ _ us hl => match us, hl with | [_, _], _ => rfl) sc_common_divisor (fun vs H Q E h => ?_) (fun cdv A outer s H vs Q E hr h => ?_)
  · obtain ⟨a, b, rfl, _⟩ := h
    rfl
  · obtain ⟨a, b, rfl, q⟩ := h
    refine ⟨_, PSs.nox (pss_cons (ps_par (i := 0) (j := 1) (by rfl) sc_common_divisor.nd rfl rfl (by decide) rfl rfl (pa_cons (pe_callB call_abs (by rfl) T.z_abs (by decide +kernel) (pa_cons (pv 0) pa_nil)) (pa_cons (pe_callB call_abs (by rfl) T.z_abs (by decide +kernel) (pa_cons (pv 1) pa_nil)) pa_nil)) (by rfl))
      (pss_cons (ps_while PassesOwn.never (pt_cmpR op_gt (pv 1) pe_int (nomark _))
      (pss_one (ps_par (i := 0) (j := 1) (by rfl) sc_common_divisor.nd rfl rfl (by decide) rfl rfl (pa_cons (pv 1) (pa_cons (pe_op op_mod (pv 0) (pv 1)) pa_nil)) (by rfl))))
      (pss_one (ps_ret (pv 0))))), ?_⟩
    refine ⟨_, rfl, _, rfl, _, rfl, _, rfl, _, _, rfl, ?_⟩
    refine ⟨fun m σ H' => ∃ x y : Nat, m = y ∧ σ = [some (.int x), some (.int y)] ∧ H' = H ∧ Nat.gcd x y = Nat.gcd a.natAbs b.natAbs, ⟨b.natAbs, a.natAbs, b.natAbs, rfl, ?_, rfl, rfl⟩, ?_⟩
    · have e : ∀ z : Int, (if z < 0 then -z else z) = (z.natAbs : Int) := fun z => by split <;> omega
      show [some (V.int _), some (V.int _)] = _
      rw [e, e]
    · rintro m σ H' ⟨x, y, em, rfl, rfl, hg⟩
      subst m
      refine ⟨_, rfl, _, _, rfl, rfl, _, rfl, ie (fun h1 => ?_) (fun h1 => ?_)⟩
      · have hy : 0 < y := by
          have := of_decide_eq_true h1
          omega
        refine ⟨_, fun σ' H2 hN => hN, _, rfl, _, rfl, _, rfl, _, _, rfl, rfl, (by show (0 : Int) < (y : Int); omega), _, _, rfl, ?_⟩
        exact ⟨x % y, Nat.mod_lt _ hy, y, x % y, rfl, rfl, rfl, by rw [← hg, Nat.gcd_comm x y, Nat.gcd_rec y x, Nat.gcd_comm]⟩
      · have hy : y = 0 := by
          have := of_decide_eq_false h1
          omega
        refine ⟨_, rfl, ?_⟩
        subst hy
        rw [Nat.gcd_zero_right] at hg
        unfold cd at q
        rw [← hg] at q
        exact q
/-! is_value -/
def spIsValue (K : PySem.W.Frag) : Sp := fun vs H Q _ => ∃ v th, vs = [v] ∧ ThOk K H v th ∧ Q (.bl (isValT th)) H
theorem d_is_value (T : Txt K mg) : Dn P w K mg base CX0 2 "is_value" (spIsValue K) := by
  obtain ⟨fd, F⟩ := T.f_is_value
  have D_is_whole := d_is_whole (P := P) (w := w) (base := base) T
  have D_common_divisor := d_common_divisor (P := P) (w := w) (base := base) T
  refine dnN T.g_is_value F (fun _ _ _ _ _ _ us hl => match us, hl with | [_], _ => rfl) sc_is_value (fun vs H Q E h => ?_) (fun cdv A outer s H vs Q E hr h => ?_)
  · obtain ⟨v, th, rfl, _⟩ := h
    rfl
  · obtain ⟨v, th, rfl, ht, q⟩ := h
    obtain ⟨t, ty, ki⟩ := ht.ty
    refine ⟨_, PSs.nox (pss_cons (ps_if (PW.pt (pw_or (pt_not (pt_val (pe_callB call_isi (by rfl) T.z_isinstance (by decide +kernel) (pa_cons (pv 0) (pa_cons (pe_bltn (v := .ty "tuple") (by rfl) T.z_tuple (by decide +kernel) rfl) pa_nil))))) (pw_or1 (pt_cmpR op_ne (pe_callB call_len_seq (by rfl) T.z_len (by decide +kernel) (pa_cons (pv 0) pa_nil)) pe_int (nomark _))))) (pss_one (ps_ret pe_bl)) pss_nil)
      (pss_cons (ps_if (PW.pt (pw_or (pt_not (pt_val (cl D_is_whole (hr.mono (by decide)) (pa_cons (pe_ix ix_tup (pv 0) pe_int (fun _ _ => rfl)) pa_nil)))) (pw_or (pt_not (pt_val (cl D_is_whole (hr.mono (by decide)) (pa_cons (pe_ix ix_tup (pv 0) pe_int (fun _ _ => rfl)) pa_nil)))) (pw_or1 (pt_cmpR op_lt (pe_ix ix_tup (pv 0) pe_int (fun _ _ => rfl)) pe_int (nomark _)))))) (pss_one (ps_ret pe_bl)) pss_nil)
      (pss_one (ps_ret (pe_cmpR op_eq (cl D_common_divisor (hr.mono (by decide)) (pa_cons (pe_ix ix_tup (pv 0) pe_int (fun _ _ => rfl)) (pa_cons (pe_ix ix_tup (pv 0) pe_int (fun _ _ => rfl)) pa_nil))) pe_int (nomark _)))))), ?_⟩
    refine ⟨_, rfl, _, _, t, _, _, rfl, .ty _, ty, ki .tup, _, rfl, ?_⟩
    by_cases hn : ∃ ds, th = .d (.tuple ds)
    · obtain ⟨ds, rfl⟩ := hn
      refine iteF ?_
      cases ht with
      | @tup a xs _ hS hA =>
      refine ⟨_, rfl, _, _, rfl, .inr hS, rfl, _, rfl, ?_⟩
      by_cases hl : xs.length = 2
      · match xs, hl with
        | [v0, v1], _ =>
        match ds, hA with
        | [d0, d1], .cons h0 (.cons h1 .nil) =>
        refine iteF ?_
        -- is_whole(thing[0])
        refine ⟨_, rfl, _, _, 0, v0, rfl, rfl, hS, atI_nat (j := 0) rfl, v0, .d d0, rfl, h0, _, rfl, ?_⟩
        rw [isWholeT_d]
        by_cases w0 : ∃ a, d0 = .int a
        · obtain ⟨a0, rfl⟩ := w0
          refine iteF ?_
          refine ⟨_, rfl, _, _, 1, v1, rfl, rfl, hS, atI_nat (j := 1) rfl, v1, .d d1, rfl, h1, _, rfl, ?_⟩
          rw [isWholeT_d]
          by_cases w1 : ∃ b, d1 = .int b
          · obtain ⟨b0, rfl⟩ := w1
            refine iteF ?_
            cases h0
            cases h1
            refine ⟨_, rfl, _, _, 1, _, rfl, rfl, hS, atI_nat (j := 1) rfl, _, _, rfl, rfl, _, rfl, ie (fun c => ?_) (fun c => ?_)⟩
            · have e : isValT (.d (.tuple [.int a0, .int b0])) = false := by
                show (!decide (b0 < 1) && decide (cd a0 b0 = 1)) = false
                rw [c]
                rfl
              rw [e] at q
              exact q
            · have e : isValT (.d (.tuple [.int a0, .int b0])) = decide (V.int (cd a0 b0) = V.int 1) := by
                show (!decide (b0 < 1) && decide (cd a0 b0 = 1)) = decide (V.int (cd a0 b0) = V.int 1)
                rw [c]
                simp
              rw [e] at q
              exact ⟨_, rfl, _, _, 0, _, rfl, rfl, hS, atI_nat (j := 0) rfl, _, rfl, _, _, 1, _, rfl, rfl, hS, atI_nat (j := 1) rfl, _, _, rfl, rfl, q⟩
          · have e2 : isWholeD d1 = false := by
              cases d1 <;> first | rfl | exact absurd ⟨_, rfl⟩ w1
            rw [e2]
            have e : isValT (.d (.tuple [.int a0, d1])) = false := by
              cases d1 <;> first | rfl | exact absurd ⟨_, rfl⟩ w1
            rw [e] at q
            exact q
        · have e2 : isWholeD d0 = false := by
            cases d0 <;> first | rfl | exact absurd ⟨_, rfl⟩ w0
          rw [e2]
          have e : isValT (.d (.tuple [d0, d1])) = false := by
            cases d0 <;> first | rfl | exact absurd ⟨_, rfl⟩ w0
          rw [e] at q
          exact q
      · have e2 : decide (V.int (xs.length : Int) = V.int 2) = false := decide_eq_false fun z => hl (by injection z; omega)
        rw [e2]
        have hdl : ds.length ≠ 2 := by
          rw [← DpAll.length hA]
          exact hl
        have e : isValT (.d (.tuple ds)) = false := by
          match ds, hdl with
          | [], _ => rfl
          | [_], _ => simp [isValT, isValD]
          | [_, _], h => exact absurd rfl h
          | _ :: _ :: _ :: _, _ => simp [isValT, isValD]
        rw [e] at q
        exact q
    · have e1 : th.is .tup = false := by
        cases th with
        | o => rfl
        | d d => cases d <;> first | rfl | exact absurd ⟨_, rfl⟩ hn
      rw [e1]
      have e : isValT th = false := by
        cases th with
        | o => rfl
        | d d => cases d <;> first | rfl | exact absurd ⟨_, rfl⟩ hn
      rw [e] at q
      exact q
/-! _law_begin -/
def spBegin (K : PySem.W.Frag) : Sp := fun vs H Q _ => ∃ (a : Addr) (ns : List Int), vs = [.ref a] ∧ SqL K H a (ns.map V.int) ∧ ∀ p l H', H p = none → H l = none → Same H H' → Src H' p l → Q (.ref p) H'
theorem cut_map (ns : List Int) (lo hi : Option Int) : ∃ ms : List Int, cutV (ns.map V.int) lo hi = ms.map V.int := by
  unfold cutV
  rw [← List.map_drop, ← List.map_take]
  exact ⟨_, rfl⟩
theorem d_begin (T : Txt K mg) : Dn P w K mg base CX0 1 "_law_begin" (spBegin K) := by
  obtain ⟨fd, F⟩ := T.f__law_begin
  refine dnN T.g__law_begin F (fun _ _ _ _ _ _ us hl => match us, hl with | [_], _ => rfl) sc__law_begin (fun vs H Q E h => ?_) (fun cdv A outer s H vs Q E hr h => ?_)
  · obtain ⟨a, ns, rfl, _⟩ := h
    rfl
  · obtain ⟨a, ns, rfl, hS, q⟩ := h
    refine ⟨_, PSs.nox (pss_one (ps_ret (pe_lst (pa_cons (pe_callTy call_list_of (by rfl) T.z_list (by decide +kernel) (pa_cons (pe_slice sl_list (pv 0) po_none (po_some pe_int)) pa_nil)) (pa_cons pe_int (pa_cons pe_int (pa_cons pe_int pa_nil))))))), ?_⟩
    obtain ⟨ms, hm⟩ := cut_map ns none (some 63)
    refine ⟨_, rfl, _, rfl, _, _, rfl, hS, fun c nc => ?_⟩
    rw [hm]
    generalize eH1 : upd H c _ = H1
    have s1 : Same H H1 := eH1 ▸ same_upd nc
    have h1 : H1 c = some _ := eH1 ▸ upd_same
    refine ⟨_, _, rfl, .inl (SqL.of h1), fun l nl => ?_⟩
    generalize eH2 : upd H1 l _ = H2
    have s2 : Same H1 H2 := eH2 ▸ same_upd nl
    have h2 : H2 l = some _ := eH2 ▸ upd_same
    refine ⟨(by show 4 ≤ sizeLine; decide), fun p np => ?_⟩
    generalize eH3 : upd H2 p _ = H3
    have s3 : Same H2 H3 := eH3 ▸ same_upd np
    have h3 : H3 p = some _ := eH3 ▸ upd_same
    exact q p l H3 (s1.free (s2.free np)) (s1.free nl) (s1.trans (s2.trans s3)) ⟨ms, 0, 0, 7, h3, s3 _ _ h2, by omega, by omega, by omega⟩
/-! _law_draw -/
def spDraw : Sp := fun vs H Q _ => ∃ (p l : Addr) (L : Int), vs = [.ref p, .int L] ∧ 0 < L ∧ L ≤ 1000000000000000000 ∧ Src H p l ∧ ∀ (n : Int) (H' : Hp), 0 ≤ n → n < L → Src H' p l → But p H H' → Q (.int n) H'
theorem mulok {i j : Int} {a : Nat} (h1 : i.natAbs < 2 ^ 70) (h2 : j.natAbs < 2 ^ 70) : CMulW i j := wide_mul h1 h2 (by decide) (by decide) (by decide)
theorem pow18 : ((10 : Int) ^ (18 : Int).toNat) = 1000000000000000000 := by decide +kernel
theorem d_draw (T : Txt K mg) : Dn P w K mg base CX0 1 "_law_draw" spDraw := by
  obtain ⟨fd, F⟩ := T.f__law_draw
  refine dnN T.g__law_draw F (fun _ _ _ _ _ _ us hl => match us, hl with | [_, _], _ => rfl) sc__law_draw (fun vs H Q E h => ?_) (fun cdv A outer s H vs Q E hr h => ?_)
  · obtain ⟨p, l, L, rfl, _⟩ := h
    rfl
  · obtain ⟨p, l, L, rfl, hL0, hL1, hS, q⟩ := h
    obtain ⟨ns, i, c, r, h1, h2, hc, hr0, hr1⟩ := id hS
    have npl : l ≠ p := hS.ne
    have hpw : CPow 10 18 := ⟨by decide, by decide, by decide⟩
    refine ⟨_, PSs.nox (pss_mid (ps_if (PW.pt (pw_and (pt_cmpR op_lt (pe_ix ix_list (pv 0) pe_int (fun _ _ => rfl)) (pe_op op_pow pe_int pe_int) (nomark _)) (pw_and1 (pt_cmpR op_lt (pe_ix ix_list (pv 0) pe_int (fun _ _ => rfl)) (pe_callB call_len_seq (by rfl) T.z_len (by decide +kernel) (pa_cons (pe_ix ix_list (pv 0) pe_int (fun _ _ => rfl)) pa_nil)) (nomark _))))) (pss_cons (ps_set (i := 2) sc__law_draw.nd rfl (.inl rfl) (pe_callTy call_int1 (by rfl) T.z_int (by decide +kernel) (pa_cons (pe_ix ix_list (pe_ix ix_list (pv 0) pe_int (fun _ _ => rfl)) (pe_ix ix_list (pv 0) pe_int (fun _ _ => rfl)) (fun _ _ => rfl)) pa_nil)))
      (pss_cons (ps_asg (pe_op op_add (pe_ix ix_list (pv 0) pe_int (fun _ _ => rfl)) pe_int) (pg_sub (pv 0) pe_int set_list))
      (pss_cons (ps_asg pe_int (pg_sub (pv 0) pe_int set_list))
      (pss_mid (ps_if (pt_cmpR op_ge (pv 2) (pe_op op_pow pe_int pe_int) (nomark _)) (pss_one (ps_asg (pv 2) (pg_sub (pv 0) pe_int set_list))) pss_nil)
      (pss_one (ps_asg (pe_op op_mod (pe_op op_add (pe_op op_add (pe_op op_mulW (pe_ix ix_list (pv 0) pe_int (fun _ _ => rfl)) pe_int) (pe_op op_mod (pv 2) pe_int)) pe_int) pe_int) (pg_sub (pv 0) pe_int set_list))))))) pss_nil)
      (pss_cons (ps_if (pt_cmpR op_ge (pe_ix ix_list (pv 0) pe_int (fun _ _ => rfl)) (pe_op op_pow pe_int pe_int) (nomark _)) (pss_cons (ps_set (i := 3) sc__law_draw.nd rfl (.inl rfl) (pe_op op_mod (pe_ix ix_list (pv 0) pe_int (fun _ _ => rfl)) (pv 1)))
      (pss_cons (ps_asg (pe_op op_fdivW (pe_ix ix_list (pv 0) pe_int (fun _ _ => rfl)) (pv 1)) (pg_sub (pv 0) pe_int set_list))
      (pss_one (ps_ret (pv 3))))) pss_nil)
      (pss_cons (ps_asg (pe_op op_mod (pe_op op_add (pe_op op_mulW (pe_ix ix_list (pv 0) pe_int (fun _ _ => rfl)) pe_int) pe_int) pe_int) (pg_sub (pv 0) pe_int set_list))
      (pss_one (ps_ret (pe_op op_mod (pe_op op_fdivW (pe_ix ix_list (pv 0) pe_int (fun _ _ => rfl)) pe_int) (pv 1))))))), ?_⟩
    refine ⟨fun σ' H' => ∃ v2, σ' = [some (.ref p), some (.int L), v2, none] ∧ Src H' p l ∧ But p H H', ?_, ?_⟩
    · -- the first test
      refine ⟨_, rfl, _, _, 2, _, rfl, rfl, SqL.of h1, atI_nat (j := 2) rfl, _, _, rfl, rfl, hpw, _, _, rfl, rfl, _, rfl, ie (fun c1 => ?_) (fun c1 => ?_)⟩
      · refine ⟨_, rfl, _, _, 1, _, rfl, rfl, SqL.of h1, atI_nat (j := 1) rfl, _, rfl, _, _, 0, _, rfl, rfl, SqL.of h1, atI_nat (j := 0) rfl, _, _, rfl, .inl (SqL.of h2), _, _, rfl, rfl, _, rfl, ie (fun c2 => ?_) (fun c2 => ?_)⟩
        · have c2 := of_decide_eq_true c2
          rw [List.length_map] at c2
          have hi : i < ns.length := by omega
          have hg : (ns.map V.int)[i]? = some (.int ns[i]) := by
            rw [List.getElem?_map, List.getElem?_eq_getElem hi]
            rfl
          generalize ns[i] = z at hg
          -- _law_cell = int(_law_source[0][_law_source[1]])
          refine ⟨_, rfl, _, _, 0, _, rfl, rfl, SqL.of h1, atI_nat (j := 0) rfl, _, rfl, _, _, 1, _, rfl, rfl, SqL.of h1, atI_nat (j := 1) rfl, _, _, _, _, rfl, rfl, SqL.of h2, atI_nat hg, .inl ⟨_, rfl, ?_⟩⟩
          -- _law_source[1] = _law_source[1] + 1
          refine ⟨_, rfl, _, _, 1, _, rfl, rfl, SqL.of h1, atI_nat (j := 1) rfl, _, _, rfl, rfl, _, rfl, p, _, 1, 1, rfl, rfl, h1, rfl, ?_⟩
          generalize e3 : upd H p _ = H3
          have b3 : But p H H3 := e3 ▸ but_upd
          have h3 : H3 p = some (.lst [.ref l, .int (i + 1), .int c, .int r]) := e3 ▸ upd_same
          -- _law_source[2] = 0
          refine ⟨_, rfl, p, _, 2, 2, rfl, rfl, h3, rfl, ?_⟩
          generalize e4 : upd H3 p _ = H4
          have b4 : But p H3 H4 := e4 ▸ but_upd
          have h4 : H4 p = some (.lst [.ref l, .int (i + 1), .int 0, .int r]) := e4 ▸ upd_same
          -- if _law_cell >= 10 ** 18: _law_source[2] = _law_cell
          refine ⟨fun σ' H' => ∃ c' : Int, 0 ≤ c' ∧ σ' = [some (.ref p), some (.int L), some (.int z), none] ∧ But p H H' ∧ H' p = some (.lst [.ref l, .int (i + 1), .int c', .int r]), ?_, ?_⟩
          · refine ⟨_, rfl, _, _, rfl, rfl, hpw, _, _, rfl, rfl, _, rfl, ie (fun c3 => ?_) (fun c3 => ?_)⟩
            · have c3 := of_decide_eq_true c3
              rw [pow18] at c3
              refine ⟨_, rfl, _, rfl, p, _, 2, 2, rfl, rfl, h4, rfl, ?_⟩
              exact ⟨z, by omega, rfl, b3.trans (b4.trans but_upd), upd_same⟩
            · exact ⟨0, by omega, rfl, b3.trans b4, h4⟩
          · rintro σ' H5 ⟨c', hc', rfl, b5, h5⟩
            have hm : CMulW r 48271 := mulok (a := 0) (by omega) (by decide)
            have hmod : 0 ≤ (r * 48271 + z % 2147483629 + 11) % 2147483647 ∧ (r * 48271 + z % 2147483629 + 11) % 2147483647 < 2147483647 := ⟨Int.emod_nonneg _ (by decide), Int.emod_lt_of_pos _ (by decide)⟩
            refine ⟨_, rfl, _, _, 3, _, rfl, rfl, SqL.of h5, atI_nat (j := 3) rfl, _, _, rfl, rfl, hm, _, rfl, _, _, rfl, rfl, (by show (0 : Int) < 2147483629; decide), _, _, rfl, rfl, _, _, rfl, rfl, _, _, rfl, rfl, (by show (0 : Int) < 2147483647; decide), _, rfl, p, _, 3, 3, rfl, rfl, h5, rfl, ?_⟩
            exact ⟨_, rfl, ⟨ns, i + 1, c', _, upd_same, by rw [upd_ne npl]; exact b5 _ _ h2 npl, hc', hmod.1, hmod.2⟩, b5.trans but_upd⟩
        · exact ⟨none, rfl, hS, .refl _ _⟩
      · exact ⟨none, rfl, hS, .refl _ _⟩
    · rintro σ' H1 ⟨v2, rfl, hS1, b1⟩
      clear h1 h2 hc hr0 hr1 npl
      obtain ⟨ns, i, c, r, h1, h2, hc, hr0, hr1⟩ := id hS1
      have npl : l ≠ p := hS1.ne
      refine ⟨_, rfl, _, _, 2, _, rfl, rfl, SqL.of h1, atI_nat (j := 2) rfl, _, _, rfl, rfl, hpw, _, _, rfl, rfl, _, rfl, ie (fun c1 => ?_) (fun c1 => ?_)⟩
      · refine ⟨_, rfl, _, _, 2, _, rfl, rfl, SqL.of h1, atI_nat (j := 2) rfl, _, rfl, _, _, rfl, rfl, hL0, ?_⟩
        have hdv : CDivW c L := wide_div hL0 (b := 64) (by omega) (by decide) (by decide)
        refine ⟨_, rfl, _, _, 2, _, rfl, rfl, SqL.of h1, atI_nat (j := 2) rfl, _, rfl, _, _, rfl, rfl, hdv, _, rfl, p, _, 2, 2, rfl, rfl, h1, rfl, ?_⟩
        refine ⟨_, rfl, ?_⟩
        refine q (c % L) _ (Int.emod_nonneg _ (by omega)) (Int.emod_lt_of_pos _ hL0) ⟨ns, i, c / L, r, upd_same, by rw [upd_ne npl]; exact h2, Int.ediv_nonneg hc (by omega), hr0, hr1⟩ (b1.trans but_upd)
      · have hm : CMulW r 39373 := mulok (a := 0) (by omega) (by decide)
        have hmod : 0 ≤ (r * 39373 + 12820163) % 2147483647 ∧ (r * 39373 + 12820163) % 2147483647 < 2147483647 := ⟨Int.emod_nonneg _ (by decide), Int.emod_lt_of_pos _ (by decide)⟩
        refine ⟨_, rfl, _, _, 3, _, rfl, rfl, SqL.of h1, atI_nat (j := 3) rfl, _, _, rfl, rfl, hm, _, _, rfl, rfl, _, _, rfl, rfl, (by show (0 : Int) < 2147483647; decide), _, rfl, p, _, 3, 3, rfl, rfl, h1, rfl, ?_⟩
        generalize e3 : upd H1 p _ = H3
        have b3 : But p H1 H3 := e3 ▸ but_upd
        have h3 : H3 p = some (.lst [.ref l, .int i, .int c, .int ((r * 39373 + 12820163) % 2147483647)]) := e3 ▸ upd_same
        generalize (r * 39373 + 12820163) % 2147483647 = r2 at *
        have hdv : CDivW r2 16 := ⟨by decide, by decide⟩
        refine ⟨_, rfl, _, _, 3, _, rfl, rfl, SqL.of h3, atI_nat (j := 3) rfl, _, _, rfl, rfl, hdv, _, rfl, _, _, rfl, rfl, hL0, ?_⟩
        exact q (r2 / 16 % L) _ (Int.emod_nonneg _ (by omega)) (Int.emod_lt_of_pos _ hL0) ⟨ns, i, c, r2, h3, b3 _ _ h2 npl, hc, hmod.1, hmod.2⟩ (b1.trans b3)

end
/-! a web -/
abbrev aWeb (K : PySem.W.Frag) : Addr := ga K "Web"
def webF (lw lt kd : Addr) : List (Str × V) := putF "known" (.ref kd) (putF "wants" (.ref lt) (putF "worths" (.ref lw) []))
theorem webF_worths {a b c : Addr} : (webF a b c).lookup ("worths" : Str) = some (.ref a) := by
  unfold webF
  rw [lookup_putF, if_neg (by decide +kernel), lookup_putF, if_neg (by decide +kernel), lookup_putF, if_pos rfl]
theorem webF_wants {a b c : Addr} : (webF a b c).lookup ("wants" : Str) = some (.ref b) := by
  unfold webF
  rw [lookup_putF, if_neg (by decide +kernel), lookup_putF, if_pos rfl]
theorem webF_known {a b c : Addr} : (webF a b c).lookup ("known" : Str) = some (.ref c) := by
  unfold webF
  rw [lookup_putF, if_pos rfl]
theorem webF_no {a b c : Addr} {m : Str} (h1 : m ≠ "known") (h2 : m ≠ "wants") (h3 : m ≠ "worths") : (webF a b c).lookup m = none := by
  unfold webF
  rw [lookup_putF, if_neg h1, lookup_putF, if_neg h2, lookup_putF, if_neg h3]
  rfl
/-- the place of a value among the points -/
def idx (ws : List PyData) (a b : Int) : Option Nat := ws.findIdx? fun d => PyData.eqv d (.tuple [.int a, .int b])
def tk (a b : Int) : List Key := [.inl a, .inl b]
structure Kn (ws : List PyData) (kn : List (List Key × V)) : Prop where
  val : ∀ a b, valV kn (tk a b) = (idx ws a b).map fun i => V.int (i : Nat)
  nd : (kn.map (·.1)).Nodup
  len : kn.length ≤ ws.length
theorem eqv_val (a b x y : Int) : PyData.eqv (.tuple [.int a, .int b]) (.tuple [.int x, .int y]) = decide (tk x y = tk a b) := by
  have e : PyData.eqv (.tuple [.int a, .int b]) (.tuple [.int x, .int y]) = ((a == x) && ((b == y) && true)) := rfl
  rw [e, Bool.and_true]
  unfold tk
  by_cases h1 : a = x
  · by_cases h2 : b = y
    · subst h1 h2; simp
    · rw [decide_eq_false (by intro z; injection z with z1 z2; injection z2 with z2 _; injection z2 with z2; exact h2 z2.symm), beq_eq_false_iff_ne.mpr h2, Bool.and_false]
  · rw [decide_eq_false (by intro z; injection z with z1 z2; injection z1 with z1; exact h1 z1.symm), beq_eq_false_iff_ne.mpr h1, Bool.false_and]
theorem valV_none {κ : Type} [DecidableEq κ] {k : κ} : ∀ {kn : List (κ × V)}, valV kn k = none → k ∉ kn.map (·.1)
  | [], _ => by simp
  | p :: r, h => by
    by_cases e : p.1 = k
    · rw [valV_pos e] at h; cases h
    · rw [valV_neg e] at h
      intro z
      rcases List.mem_cons.mp z with z | z
      · exact e z.symm
      · exact valV_none h z
theorem valV_miss {κ : Type} [DecidableEq κ] {k : κ} : ∀ {kn : List (κ × V)}, k ∉ kn.map (·.1) → valV kn k = none
  | [], _ => rfl
  | p :: r, h => by
    rw [valV_neg (fun e => h (by rw [← e]; simp))]
    exact valV_miss fun z => h (List.mem_cons_of_mem _ z)
theorem valV_at {κ : Type} [DecidableEq κ] {k : κ} {v : V} : ∀ {kn : List (κ × V)} {i : Nat}, (kn.map (·.1)).Nodup → kn[i]? = some (k, v) → valV kn k = some v
  | p :: r, 0, _, h => by
    have e : p = (k, v) := by simpa using h
    rw [e]
    exact valV_pos rfl
  | p :: r, i + 1, nd, h => by
    have h' : r[i]? = some (k, v) := by simpa using h
    have nd' := List.nodup_cons.mp nd
    rw [valV_neg (fun e => nd'.1 (by show p.1 ∈ _; rw [e]; exact List.mem_map.mpr ⟨_, List.mem_of_getElem? h', rfl⟩))]
    exact valV_at nd'.2 h'
theorem putK_take {κ : Type} [DecidableEq κ] {k : κ} {v : V} {kn : List (κ × V)} {i : Nat} (nd : (kn.map (·.1)).Nodup) (h : kn[i]? = some (k, v)) : putK (kn.take i) k v = kn.take (i + 1) := by
  have e : kn.take (i + 1) = kn.take i ++ [(k, v)] := by
    rw [List.take_add_one, h]
    rfl
  rw [e]
  refine putK_new v (valV_miss fun z => ?_)
  have hn : ((kn.take (i + 1)).map (·.1)).Nodup := by
    rw [List.map_take]
    exact nd.sublist (List.take_sublist _ _)
  rw [e, List.map_append] at hn
  exact (List.nodup_append.mp hn).2.2 k z k (by simp) rfl
theorem idx_snoc {ws : List PyData} {d : PyData} {a b : Int} : idx (ws ++ [d]) a b = (match idx ws a b with | some i => some i | none => if PyData.eqv d (.tuple [.int a, .int b]) = true then some ws.length else none) := by
  unfold idx
  rw [List.findIdx?_append]
  cases h : ws.findIdx? fun d => PyData.eqv d (.tuple [.int a, .int b]) with
  | some i => rfl
  | none =>
    simp only [List.findIdx?_cons, List.findIdx?_nil]
    cases PyData.eqv d (.tuple [.int a, .int b]) <;> simp
theorem Kn.nil : Kn [] [] := ⟨fun _ _ => rfl, by simp, Nat.le_refl _⟩
theorem Kn.none {ws : List PyData} {kn : List (List Key × V)} (k : Kn ws kn) : Kn (ws ++ [.none]) kn := by
  refine ⟨fun a b => ?_, k.nd, by rw [List.length_append]; have := k.len; omega⟩
  rw [k.val, idx_snoc]
  cases idx ws a b <;> rfl
theorem Kn.put {ws : List PyData} {kn : List (List Key × V)} (k : Kn ws kn) {a b : Int} (h : idx ws a b = Option.none) : Kn (ws ++ [.tuple [.int a, .int b]]) (putK kn (tk a b) (.int (ws.length : Nat))) := by
  have hv : valV kn (tk a b) = Option.none := by rw [k.val, h]; rfl
  refine ⟨fun x y => ?_, ?_, ?_⟩
  · rw [valV_put, idx_snoc, eqv_val]
    by_cases e : tk x y = tk a b
    · rw [if_pos e, decide_eq_true e, if_pos rfl]
      have e2 : idx ws x y = Option.none := by
        have := k.val x y
        rw [e, hv] at this
        cases hh : idx ws x y with
        | none => rfl
        | some i => rw [hh] at this; cases this
      rw [e2]
      rfl
    · rw [if_neg e, k.val, decide_eq_false e, if_neg Bool.false_ne_true]
      cases idx ws x y <;> rfl
  · rw [putK_new _ hv, List.map_append]
    refine List.nodup_append.mpr ⟨k.nd, by simp, fun x hx y hy => ?_⟩
    rw [List.map_singleton, List.mem_singleton] at hy
    subst hy
    exact fun e => valV_none hv (by have e' : x = tk a b := e; rw [← e']; exact hx)
  · rw [putK_new _ hv, List.length_append, List.length_append]
    have := k.len
    simp only [List.length_singleton]
    omega
structure Wb (K : PySem.W.Frag) (H : Hp) (x dx lw lt kd : Addr) (ws ds : List PyData) : Prop where
  hx : H x = some (.ins (aWeb K) dx (webF lw lt kd))
  hw : ∃ vs, H lw = some (.lst vs) ∧ DpAll K H vs ws
  ht : ∃ vs, H lt = some (.lst vs) ∧ DpAll K H vs ds
  hk : ∃ kn, H kd = some (.dT kn) ∧ Kn ws kn
  pw : Pds ws
  pd : Pds ds
theorem Wb.md {K : PySem.W.Frag} {H H' : Hp} {x dx lw lt kd : Addr} {ws ds : List PyData} {S : List Addr} (W : Wb K H x dx lw lt kd ws ds) (m : Md S H H') (h1 : x ∉ S) (h2 : lw ∉ S) (h3 : lt ∉ S) (h4 : kd ∉ S) : Wb K H' x dx lw lt kd ws ds := by
  obtain ⟨hx, ⟨v1, e1, a1⟩, ⟨v2, e2, a2⟩, ⟨kn, e3, a3⟩, pw, pd⟩ := W
  exact ⟨m.out _ _ hx h1, ⟨v1, m.out _ _ e1 h2, m.dpAll pw.nl a1⟩, ⟨v2, m.out _ _ e2 h3, m.dpAll pd.nl a2⟩, ⟨kn, m.out _ _ e3 h4, a3⟩, pw, pd⟩
theorem Wb.same {K : PySem.W.Frag} {H H' : Hp} {x dx lw lt kd : Addr} {ws ds : List PyData} (W : Wb K H x dx lw lt kd ws ds) (s : Same H H') : Wb K H' x dx lw lt kd ws ds := W.md (S := []) (.of s) (by simp) (by simp) (by simp) (by simp)
end K06
namespace K06
open PySem PySem.Spec PyProof.Rows L2 He TL EL
section
variable {P : Program} {w : World} {K : PySem.W.Frag} {mg : Str → Option Value} {base : Heap}
/-! __init__ -/
def KnownV (H : Hp) (v : V) (kn : List (List Key × V)) : Prop := (v = .non ∧ kn = []) ∨ ∃ kd, v = .ref kd ∧ H kd = some (.dT kn)
def spInit (K : PySem.W.Frag) : Sp := fun vs H Q _ => ∃ x dx a1 a2 v3 ys zs kn, vs = [.ref x, .ref a1, .ref a2, v3] ∧ H x = some (.ins (aWeb K) dx []) ∧ (SqL K H a1 ys ∨ SqT K H a1 ys) ∧ (SqL K H a2 zs ∨ SqT K H a2 zs) ∧
  KnownV H v3 kn ∧ (kn.map (·.1)).Nodup ∧ kn.length < 1000 ∧ ys.length ≤ 1000 ∧ zs.length ≤ 1000 ∧
  ∀ lw lt kd H', Md [x] H H' → H lw = none → H lt = none → H kd = none → lw ≠ lt → H' x = some (.ins (aWeb K) dx (webF lw lt kd)) → H' lw = some (.lst ys) → H' lt = some (.lst zs) → H' kd = some (.dT kn) → Q .non H'
theorem sq_md {H H' : Hp} {S : List Addr} {a : Addr} {ys : List V} (m : Md S H H') (h : SqL K H a ys ∨ SqT K H a ys) (n : a ∉ S) : SqL K H' a ys ∨ SqT K H' a ys := by
  rcases h with ((h | ⟨o, h⟩) | h) | h
  · exact .inl (.inl (.inl (m.out _ _ h n)))
  · exact .inl (.inl (.inr ⟨o, m.out _ _ h n⟩))
  · exact .inl (.inr h)
  · exact .inr (m.sqT h)
theorem sq_ne {H : Hp} {a x C dx : Addr} {ys : List V} {fs : List (Str × V)} (h : SqL K H a ys ∨ SqT K H a ys) (hx : H x = some (.ins C dx fs)) : (a ≠ x) ∨ ∀ H', SqL K H' a ys ∨ SqT K H' a ys := by
  rcases h with ((h | ⟨o, h⟩) | h) | ((h | ⟨o, h⟩) | h)
  · exact .inl (ne_of h hx (by intro z; cases z))
  · exact .inl (ne_of h hx (by intro z; cases z))
  · exact .inr fun _ => .inl (.inr h)
  · exact .inl (ne_of h hx (by intro z; cases z))
  · exact .inl (ne_of h hx (by intro z; cases z))
  · exact .inr fun _ => .inr (.inr h)
theorem ok_init (T : Txt K mg) : ∃ fd, FunD K "__init__" "Web.__init__" (defArgs s_Web___init__) (defBody s_Web___init__) (defScope s_Web___init__) ([.ref (dflAt ("Web", some "__init__") 0 K), .ref (dflAt ("Web", some "__init__") 1 K), .non] : List V) [] (ma K (ga K "Web") "__init__") fd ∧
    FnOk P w K mg base CX0 1 (ma K (ga K "Web") "__init__") fd ["self", "worths", "wants", "known"] (spInit K) := by
  obtain ⟨fd, F⟩ := T.f_Web___init__
  refine ⟨fd, F, F.ok sc_Web___init__ (fun vs H Q E h => ?_) (fun cdv A outer s H vs Q E hr h => ?_)⟩
  · obtain ⟨x, dx, a1, a2, v3, ys, zs, kn, rfl, _⟩ := h
    rfl
  · obtain ⟨x, dx, a1, a2, v3, ys, zs, kn, rfl, hx, h1, h2, h3, nd, kl, yl, zl, hQ⟩ := h
    refine ⟨_, PSs.nox (pss_cons (ps_fld (pv 0) (pe_callTy call_list_of (by rfl) T.z_list (by decide +kernel) (pa_cons (pv 1) pa_nil)) rfl)
      (pss_cons (ps_fld (pv 0) (pe_callTy call_list_of (by rfl) T.z_list (by decide +kernel) (pa_cons (pv 2) pa_nil)) rfl)
      (pss_one (ps_fld (pv 0) (pe_ifExp (pt_cmpR op_isN (pv 3) pe_non (nomark _)) pe_dnewT (pe_lock (pe_dcG (own := [("worth", 4)]) (tt := tYes) NilD.t hr.units0 (by rfl) sc_Web___init__.nd (pi_keys (pv 3)) (blkOk_by (own := [("worth", 4)]) (N := ["self", "worths", "wants", "known", "worth"]) (sc := defScope s_Web___init__) (by decide +kernel)) (fun _ _ _ _ _ => (pg_name (i := 4) sc_Web___init__.nd rfl (.inl rfl))) (fun _ _ _ _ _ => pts_nil) (fun _ _ _ _ _ => (pv 4)) (fun _ _ _ _ _ => (pe_dget (hu_of hr) (pv 3) (pv 4) (fun _ _ => rfl)))))) rfl)))), ?_⟩
    refine ⟨_, rfl, _, _, rfl, h1, fun lw nw => ?_⟩
    generalize eH1 : upd H lw _ = H1
    have s1 : Same H H1 := eH1 ▸ same_upd nw
    have e1 : H1 lw = some _ := eH1 ▸ upd_same
    refine ⟨_, rfl, _, _, _, _, rfl, s1 _ _ hx, T.o_Web.cl, T.n_Web_worths, (by decide), ?_⟩
    generalize eH2 : upd H1 x _ = H2
    have m2 : Md [x] H1 H2 := eH2 ▸ Md.upd (s1 _ _ hx) rfl (by simp)
    have x2 : H2 x = _ := eH2 ▸ upd_same
    have nwx : lw ≠ x := fun z => by rw [z, hx] at nw; cases nw
    have w2 : H2 lw = some (.lst ys) := m2.out _ _ e1 (by simp [nwx])
    have m02 : Md [x] H H2 := (Md.of s1).trans m2
    have h2' : SqL K H2 a2 zs ∨ SqT K H2 a2 zs := by
      rcases sq_ne h2 hx with z | z
      · exact sq_md m02 h2 (by simp [z])
      · exact z _
    refine ⟨_, rfl, _, _, rfl, h2', fun lt nt => ?_⟩
    generalize eH3 : upd H2 lt _ = H3
    have s3 : Same H2 H3 := eH3 ▸ same_upd nt
    have e3 : H3 lt = some _ := eH3 ▸ upd_same
    refine ⟨_, rfl, _, _, _, _, rfl, s3 _ _ x2, T.o_Web.cl, T.n_Web_wants, (by show 1 < 1000; decide), ?_⟩
    generalize eH4 : upd H3 x _ = H4
    have m4 : Md [x] H3 H4 := eH4 ▸ Md.upd (s3 _ _ x2) rfl (by simp)
    have x4 : H4 x = _ := eH4 ▸ upd_same
    have m04 : Md [x] H H4 := m02.trans ((Md.of s3).trans m4)
    have ntw : lw ≠ lt := fun z => by rw [← z, w2] at nt; cases nt
    have nt0 : H lt = none := by
      cases hh : H lt with
      | none => rfl
      | some o =>
        by_cases z : lt = x
        · rw [z, x2] at nt; cases nt
        · have := m02.out _ _ hh (by simp [z]); rw [nt] at this; cases this
    have ntx : lt ≠ x := fun z => by rw [z, hx] at nt0; cases nt0
    have w4 : H4 lw = some (.lst ys) := m4.out _ _ (s3 _ _ w2) (by simp [nwx])
    have t4 : H4 lt = some (.lst zs) := m4.out _ _ e3 (by simp [ntx])
    -- known
    have fin : ∀ kd H5, H4 kd = none → Same H4 H5 → H5 kd = some (.dT kn) → Q .non (upd H5 x (.ins (aWeb K) dx (putF "known" (.ref kd) (putF "wants" (.ref lt) (putF "worths" (.ref lw) []))))) := fun kd H5 nk s5 e5 => by
      have nk0 : H kd = none := by
        cases hh : H kd with
        | none => rfl
        | some o =>
          by_cases z : kd = x
          · rw [z, x4] at nk; cases nk
          · have := m04.out _ _ hh (by simp [z]); rw [nk] at this; cases this
      have nkx : kd ≠ x := fun z => by rw [z, hx] at nk0; cases nk0
      have m6 : Md [x] H5 (upd H5 x (.ins (aWeb K) dx (putF "known" (.ref kd) (putF "wants" (.ref lt) (putF "worths" (.ref lw) []))))) := Md.upd (s5 _ _ x4) rfl (by simp)
      exact hQ lw lt kd _ (m04.trans ((Md.of s5).trans m6)) nw nt0 nk0 ntw upd_same (by rw [upd_ne nwx]; exact s5 _ _ w4) (by rw [upd_ne ntx]; exact s5 _ _ t4) (by rw [upd_ne nkx]; exact e5)
    rcases h3 with ⟨rfl, rfl⟩ | ⟨kd0, rfl, hk⟩
    · refine ⟨_, rfl, rfl, _, rfl, iteT ?_⟩
      intro kd nk
      generalize eH5 : upd H4 kd _ = H5
      have s5 : Same H4 H5 := eH5 ▸ same_upd nk
      have e5 : H5 kd = some _ := eH5 ▸ upd_same
      refine ⟨_, rfl, _, _, _, _, rfl, s5 _ _ x4, T.o_Web.cl, T.n_Web_known, (by show 2 < 1000; decide), ?_⟩
      subst eH5
      exact fin kd _ nk s5 e5
    · have hk4 : H4 kd0 = some (.dT kn) := m04.out _ _ hk (by simp; exact ne_of hk hx (by intro z; cases z))
      refine ⟨_, rfl, rfl, _, rfl, iteF ?_⟩
      refine ⟨kd0, _, hk4, trivial, fun od => ?_⟩
      generalize eH5 : upd H4 kd0 _ = H5
      have k5 : H5 kd0 = some (.frz od (.dT kn)) := eH5 ▸ upd_same
      refine ⟨_, rfl, _, _, rfl, .inr ⟨_, k5, fun D nD => ?_⟩⟩
      have nD4 : H4 D = none := by
        rw [← eH5] at nD
        by_cases z : D = kd0
        · rw [z, upd_same] at nD; cases nD
        · rw [upd_ne z] at nD; exact nD
      have nDk : D ≠ kd0 := fun z => by rw [z, hk4] at nD4; cases nD4
      refine dcG_it walk_keysT (fun i H' => H' = upd H5 D (.dT (kn.take i))) rfl (fun i H' _ e => by rw [e, upd_ne (Ne.symm nDk)]; exact k5) ?_ ?_
      · rintro i xv H' H'' hi e ⟨e', k, v, q, hg, rfl, hq⟩
        subst e' e
        refine ⟨rfl, tYes_of ?_⟩
        have nDq : q ≠ D := fun z => by rw [z, upd_same] at hq; cases hq
        refine ⟨_, rfl, _, rfl, _, rfl, _, v, rfl, .inr ⟨kn, k, q, .inr ⟨od, by rw [upd_ne (Ne.symm nDk)]; exact k5⟩, rfl, hq, ?_⟩, ?_⟩
        · exact (valV_at nd hg).symm
        · refine ⟨_, DPut.t upd_same hq (Nat.lt_of_le_of_lt (by rw [List.length_take]; exact Nat.min_le_right _ _) (Nat.lt_trans kl (by decide))), ?_⟩
          rw [upd_upd, putK_take nd hg]
      · rintro H' e
        subst e
        rw [List.take_of_length_le (Nat.le_refl _)]
        refine ⟨by rw [upd_ne (Ne.symm nDk)]; exact k5, ?_⟩
        have e6 : upd (upd H5 D (.dT kn)) kd0 (.dT kn) = upd H4 D (.dT kn) := by
          rw [← eH5]
          funext b
          unfold L2.upd
          by_cases z1 : b = kd0
          · rw [if_pos z1, if_neg (by rw [z1]; exact Ne.symm nDk), z1, hk4]
          · rw [if_neg z1]
            by_cases z2 : b = D
            · rw [if_pos z2, if_pos z2]
            · rw [if_neg z2, if_neg z2, if_neg z1]
        rw [e6]
        have s6 : Same H4 (upd H4 D (.dT kn)) := same_upd nD4
        refine ⟨_, rfl, _, _, _, _, rfl, s6 _ _ x4, T.o_Web.cl, T.n_Web_known, (by show 2 < 1000; decide), ?_⟩
        exact fin D _ nD4 s6 upd_same
end
end K06
namespace K06
open PySem PySem.Spec PyProof.Rows L2 He TL EL
section
variable {P : Program} {w : World} {K : PySem.W.Frag} {mg : Str → Option Value} {base : Heap}
/-! __len__, point, demands -/
def spLen (K : PySem.W.Frag) : Sp := fun vs H Q _ => ∃ x dx lw lt kd ws ds, vs = [.ref x] ∧ Wb K H x dx lw lt kd ws ds ∧ Q (.int (ws.length : Nat)) H
theorem d_len (T : Txt K mg) : FnR P w K mg base CX0 1 (ma K (ga K "Web") "__len__") (spLen K) := by
  obtain ⟨fd, F⟩ := T.f_Web___len__
  refine fnN F (fun _ _ _ _ _ _ us hl => match us, hl with | [_], _ => rfl) sc_Web___len__ (fun vs H Q E h => ?_) (fun cdv A outer s H vs Q E hr h => ?_)
  · obtain ⟨x, dx, lw, lt, kd, ws, ds, rfl, _⟩ := h
    rfl
  · obtain ⟨x, dx, lw, lt, kd, ws, ds, rfl, W, hQ⟩ := h
    obtain ⟨vs, hw, aw⟩ := W.hw
    refine ⟨_, PSs.nox (pss_one (ps_ret (pe_callB call_len_seq (by rfl) T.z_len (by decide +kernel) (pa_cons (pe_fld (pv 0) rfl) pa_nil)))), ?_⟩
    refine ⟨_, rfl, _, _, _, _, _, rfl, W.hx, T.o_Web.cl, T.n_Web_worths, webF_worths, _, _, rfl, .inl (SqL.of hw), ?_⟩
    rw [DpAll.length aw]
    exact hQ
def spPoint (K : PySem.W.Frag) : Sp := fun vs H Q _ => ∃ x dx lw lt kd ws ds, vs = [.ref x] ∧ Wb K H x dx lw lt kd ws ds ∧ ws.length < 1000 ∧ lt ≠ lw ∧ ∀ H', Md [lw] H H' → Wb K H' x dx lw lt kd (ws ++ [.none]) ds → Q (.int (ws.length : Nat)) H'
theorem Wb.ne1 {H : Hp} {x dx lw lt kd : Addr} {ws ds : List PyData} (W : Wb K H x dx lw lt kd ws ds) : x ≠ lw ∧ x ≠ lt ∧ x ≠ kd ∧ lw ≠ kd ∧ lt ≠ kd := by
  obtain ⟨hx, ⟨v1, e1, _⟩, ⟨v2, e2, _⟩, ⟨kn, e3, _⟩, _, _⟩ := W
  exact ⟨ne_of hx e1 (by intro z; cases z), ne_of hx e2 (by intro z; cases z), ne_of hx e3 (by intro z; cases z), ne_of e1 e3 (by intro z; cases z), ne_of e2 e3 (by intro z; cases z)⟩
theorem d_point (T : Txt K mg) : FnR P w K mg base CX0 1 (ma K (ga K "Web") "point") (spPoint K) := by
  obtain ⟨fd, F⟩ := T.f_Web_point
  refine fnN F (fun _ _ _ _ _ _ us hl => match us, hl with | [_], _ => rfl) sc_Web_point (fun vs H Q E h => ?_) (fun cdv A outer s H vs Q E hr h => ?_)
  · obtain ⟨x, dx, lw, lt, kd, ws, ds, rfl, _⟩ := h
    rfl
  · obtain ⟨x, dx, lw, lt, kd, ws, ds, rfl, W, hl, hne, hQ⟩ := h
    obtain ⟨n1, n2, n3, n4, n5⟩ := W.ne1
    obtain ⟨hx, ⟨v1, e1, a1⟩, ⟨v2, e2, a2⟩, ⟨kn, e3, a3⟩, pw, pd⟩ := W
    have lv : v1.length = ws.length := DpAll.length a1
    refine ⟨_, PSs.nox (pss_cons (ps_expr (pe_bm PySem.F.plainAttrs_list PySem.F.slot_list_append PySem.F.type_list_append mt_append (pe_fld (pv 0) rfl) (pa_cons pe_non pa_nil)))
      (pss_one (ps_ret (pe_op op_sub (pe_callB call_len_seq (by rfl) T.z_len (by decide +kernel) (pa_cons (pe_fld (pv 0) rfl) pa_nil)) pe_int)))), ?_⟩
    refine ⟨_, rfl, _, _, _, _, _, rfl, hx, T.o_Web.cl, T.n_Web_worths, webF_worths, .inl ⟨rfl, _, SqL.of e1⟩, lw, _, _, rfl, rfl, e1, (by rw [lv]; exact Nat.lt_trans hl (by decide)), ?_⟩
    generalize eH : upd H lw _ = H1
    have m1 : Md [lw] H H1 := eH ▸ Md.upd e1 rfl (by simp)
    have e1' : H1 lw = some (.lst (v1 ++ [.non])) := eH ▸ upd_same
    refine ⟨_, rfl, _, _, _, _, _, rfl, m1.out _ _ hx (by simp [n1]), T.o_Web.cl, T.n_Web_worths, webF_worths, _, _, rfl, .inl (SqL.of e1'), _, _, rfl, rfl, ?_⟩
    have e : (((v1 ++ [V.non]).length : Nat) : Int) - 1 = (ws.length : Nat) := by rw [List.length_append, lv]; simp
    show Q (.int ((((v1 ++ [V.non]).length : Nat) : Int) - 1)) H1
    rw [e]
    exact hQ H1 m1 ⟨m1.out _ _ hx (by simp [n1]), ⟨_, e1', DpAll.snoc .non (m1.dpAll pw.nl a1)⟩, ⟨v2, m1.out _ _ e2 (by simp [hne]), m1.dpAll pd.nl a2⟩, ⟨kn, m1.out _ _ e3 (by simp; exact Ne.symm n4), a3.none⟩, pw.snoc ⟨rfl, rfl, by decide⟩, pd⟩
def spDemands (K : PySem.W.Frag) : Sp := fun vs H Q _ => ∃ x dx lw lt kd ws ds, vs = [.ref x] ∧ Wb K H x dx lw lt kd ws ds ∧ ∀ p H' us, H p = none → Same H H' → H' p = some (.lst us) → DpAll K H' us ds → Q (.ref p) H'
theorem d_demands (T : Txt K mg) : FnR P w K mg base CX0 1 (ma K (ga K "Web") "demands") (spDemands K) := by
  obtain ⟨fd, F⟩ := T.f_Web_demands
  refine fnN F (fun _ _ _ _ _ _ us hl => match us, hl with | [_], _ => rfl) sc_Web_demands (fun vs H Q E h => ?_) (fun cdv A outer s H vs Q E hr h => ?_)
  · obtain ⟨x, dx, lw, lt, kd, ws, ds, rfl, _⟩ := h
    rfl
  · obtain ⟨x, dx, lw, lt, kd, ws, ds, rfl, W, hQ⟩ := h
    obtain ⟨hx, ⟨v1, e1, a1⟩, ⟨v2, e2, a2⟩, ⟨kn, e3, a3⟩, pw, pd⟩ := W
    refine ⟨_, PSs.nox (pss_one (ps_ret (pe_callTy call_list_of (by rfl) T.z_list (by decide +kernel) (pa_cons (pe_fld (pv 0) rfl) pa_nil)))), ?_⟩
    refine ⟨_, rfl, _, _, _, _, _, rfl, hx, T.o_Web.cl, T.n_Web_wants, webF_wants, _, _, rfl, .inl (SqL.of e2), fun p np => ?_⟩
    generalize eH1 : upd H p _ = H1
    have s1 : Same H H1 := eH1 ▸ same_upd np
    have h1 : H1 p = some _ := eH1 ▸ upd_same
    exact hQ p H1 v2 np s1 h1 (DpAll.same s1 a2)
/-! fixed -/
def spFixed (K : PySem.W.Frag) : Sp := fun vs H Q E => ∃ x dx lw lt kd ws ds v, vs = [.ref x, v] ∧ Wb K H x dx lw lt kd ws ds ∧ ((∃ th, ThOk K H v th ∧ isValT th = false ∧ E (.ref (ga K "NoValue")) none H) ∨
  ∃ t a b, v = .ref t ∧ H t = some (.tup [.int a, .int b]) ∧ isValD (.tuple [.int a, .int b]) = true ∧ ws.length < 1000 ∧ lt ≠ lw ∧ (∀ i, idx ws a b = some i → Q (.int (i : Nat)) H) ∧
    (idx ws a b = none → ∀ H', Md [lw, kd] H H' → Wb K H' x dx lw lt kd (ws ++ [.tuple [.int a, .int b]]) ds → Q (.int (ws.length : Nat)) H'))
theorem d_fixed (T : Txt K mg) : FnR P w K mg base (L2.CX P w) 3 (ma K (ga K "Web") "fixed") (spFixed K) := by
  obtain ⟨fd, F⟩ := T.f_Web_fixed
  have D_is_value := d_is_value (P := P) (w := w) (base := base) T
  refine fnN F (fun _ _ _ _ _ _ us hl => match us, hl with | [_, _], _ => rfl) sc_Web_fixed (fun vs H Q E h => ?_) (fun cdv A outer s H vs Q E hr h => ?_)
  · obtain ⟨x, dx, lw, lt, kd, ws, ds, v, rfl, _⟩ := h
    rfl
  · obtain ⟨x, dx, lw, lt, kd, ws, ds, v, rfl, W, h⟩ := h
    obtain ⟨n1, n2, n3, n4, n5⟩ := W.ne1
    obtain ⟨hx, ⟨v1, e1, a1⟩, ⟨v2, e2, a2⟩, ⟨kn, e3, a3⟩, pw, pd⟩ := W
    have lv : v1.length = ws.length := DpAll.length a1
    refine ⟨_, (pss_cons (ps_if (pt_not (pt_val (cl D_is_value (hr.mono (by decide)) (pa_cons (pv 1) pa_nil)))) (pss_one (rs (by rfl) (takes_of rfl rfl rfl rfl) T.x_NoValue (by rfl))) pss_nil)
      (pss_cons (ps_if (pt_cmp (pc_dnotin (hu_of hr) (pv 1) (pe_fld (pv 0) rfl))) (pss_cons (ps_dput (hu_of hr) (pe_fld (pv 0) rfl) (pv 1) (pe_callB call_len_seq (by rfl) T.z_len (by decide +kernel) (pa_cons (pe_fld (pv 0) rfl) pa_nil)) rfl)
      (pss_one (ps_expr (pe_bm PySem.F.plainAttrs_list PySem.F.slot_list_append PySem.F.type_list_append mt_append (pe_fld (pv 0) rfl) (pa_cons (pv 1) pa_nil))))) pss_nil)
      (pss_one (ps_ret (pe_dget (hu_of hr) (pe_fld (pv 0) rfl) (pv 1) (fun _ _ => rfl)))))), ?_⟩
    rcases h with ⟨th, ht, hv, hE⟩ | ⟨t, a, b, rfl, ht, hv, hl, hne, hS, hN⟩
    · refine ⟨_, rfl, v, th, rfl, ht, _, rfl, ?_⟩
      rw [hv]
      exact iteT hE
    · have hd : Dp K H (.ref t) (.tuple [.int a, .int b]) := .tup (SqT.of ht) (.cons (.int _) (.cons (.int _) .nil))
      refine ⟨_, rfl, _, .d (.tuple [.int a, .int b]), rfl, hd, _, rfl, ?_⟩
      rw [show isValT (.d (.tuple [.int a, .int b])) = true from hv]
      refine iteF ?_
      have ht' : H t = some (.tup ((tk a b).map kV)) := ht
      refine ⟨_, rfl, _, rfl, _, _, _, _, _, rfl, hx, T.o_Web.cl, T.n_Web_known, webF_known, _, _, rfl, DGet.t (k := tk a b) e3 ht', _, rfl, ?_⟩
      rw [a3.val a b]
      cases hi : idx ws a b with
      | some i =>
        refine iteF ?_
        refine ⟨_, rfl, _, _, _, _, _, rfl, hx, T.o_Web.cl, T.n_Web_known, webF_known, _, rfl, _, .int (i : Nat), rfl, ?_, hS i hi⟩
        have := DGet.t (k := tk a b) e3 ht'
        rw [a3.val a b, hi] at this
        exact this
      | none =>
        refine iteT ?_
        refine ⟨_, rfl, _, _, _, _, _, rfl, hx, T.o_Web.cl, T.n_Web_worths, webF_worths, _, _, rfl, .inl (SqL.of e1), _, rfl, _, _, _, _, _, rfl, hx, T.o_Web.cl, T.n_Web_known, webF_known, _, rfl, _, _, rfl, DPut.t (k := tk a b) e3 ht' (Nat.lt_of_le_of_lt a3.len (Nat.lt_trans hl (by decide))), ?_⟩
        rw [lv]
        generalize eH : upd H kd _ = H1
        have m1 : Md [lw, kd] H H1 := eH ▸ Md.upd e3 rfl (by simp)
        have k1 : H1 kd = some (.dT (putK kn (tk a b) (.int (ws.length : Nat)))) := eH ▸ upd_same
        have x1 := m1.out _ _ hx (by simp [n1, n3])
        have w1 : H1 lw = some (.lst v1) := by rw [← eH, upd_ne n4]; exact e1
        refine ⟨_, rfl, _, _, _, _, _, rfl, x1, T.o_Web.cl, T.n_Web_worths, webF_worths, .inl ⟨rfl, _, SqL.of w1⟩, _, rfl, lw, _, _, rfl, rfl, w1, (by rw [lv]; exact Nat.lt_trans hl (by decide)), ?_⟩
        generalize eH2 : upd H1 lw _ = H2
        have m2 : Md [lw, kd] H1 H2 := eH2 ▸ Md.upd w1 rfl (by simp)
        have w2 : H2 lw = some (.lst (v1 ++ [.ref t])) := eH2 ▸ upd_same
        have x2 := m2.out _ _ x1 (by simp [n1, n3])
        have k2 : H2 kd = some (.dT (putK kn (tk a b) (.int (ws.length : Nat)))) := by rw [← eH2, upd_ne (Ne.symm n4)]; exact k1
        have mm := m1.trans m2
        have t2 : H2 t = some (.tup ((tk a b).map kV)) := mm.rig _ _ ht' rfl
        refine ⟨_, rfl, _, _, _, _, _, rfl, x2, T.o_Web.cl, T.n_Web_known, webF_known, _, rfl, _, .int (ws.length : Nat), rfl, ?_, ?_⟩
        · have := DGet.t (k := tk a b) k2 t2
          rw [valV_put, if_pos rfl] at this
          exact this
        · refine hN hi H2 mm ⟨x2, ⟨_, w2, DpAll.snoc (mm.dp rfl hd) (mm.dpAll pw.nl a1)⟩, ⟨v2, mm.out _ _ e2 (by simp [hne, n5]), mm.dpAll pd.nl a2⟩, ⟨_, k2, a3.put hi⟩, pw.snoc ⟨rfl, rfl, by show 1 ≤ 16; decide⟩, pd⟩
end
end K06
namespace K06
open PySem PySem.Spec PyProof.Rows L2 He TL EL
section
variable {P : Program} {w : World} {K : PySem.W.Frag} {mg : Str → Option Value} {base : Heap}
def sgV : List V := [.str "<", .str "<=", .str "=", .str "!="]
def signOk : PyData → Bool
  | .str z => inV (.str z) sgV
  | _ => false
def numOk (m : Nat) : PyData → Bool
  | .int n => decide (0 ≤ n) && decide (n < (m : Int))
  | _ => false
abbrev xNum (v : V) : HO := .xd [("number", v)]
def spLook (K : PySem.W.Frag) : Sp := fun vs H Q E => ∃ x dx lw lt kd ws ds v0 v1 v2 d0 d1 d2, vs = [.ref x, v0, v1, v2] ∧ Wb K H x dx lw lt kd ws ds ∧ Dp K H v0 d0 ∧ Dp K H v1 d1 ∧ Dp K H v2 d2 ∧
  (signOk d0 = false → E (.ref (ga K "NoCondition")) none H) ∧
  (signOk d0 = true → numOk ws.length d1 = false → ∀ dd H', Same H H' → H' dd = some (xNum v1) → E (.ref (ga K "NoPoint")) (some dd) H') ∧
  (signOk d0 = true → numOk ws.length d1 = true → numOk ws.length d2 = false → ∀ dd H', Same H H' → H' dd = some (xNum v2) → E (.ref (ga K "NoPoint")) (some dd) H') ∧
  (signOk d0 = true → numOk ws.length d1 = true → numOk ws.length d2 = true → ∀ H', Same H H' → Q .non H')
theorem d_look (hP : PF P "/claim/cut.py") (T : Txt K mg) : FnR P w K mg base (L2.CX P w) 2 (ma K (ga K "Web") "look") (spLook K) := by
  obtain ⟨fd, F⟩ := T.f_Web_look
  have D_is_whole := d_is_whole (P := P) (w := w) (base := base) T
  refine fnN F (fun _ _ _ _ _ _ us hl => match us, hl with | [_, _, _, _], _ => rfl) sc_Web_look (fun vs H Q E h => ?_) (fun cdv A outer s H vs Q E hr h => ?_)
  · obtain ⟨x, dx, lw, lt, kd, ws, ds, v0, v1, v2, d0, d1, d2, rfl, _⟩ := h
    rfl
  · obtain ⟨x, dx, lw, lt, kd, ws, ds, v0, v1, v2, d0, d1, d2, rfl, W, h0, h1, h2, hE0, hE1, hE2, hQ⟩ := h
    obtain ⟨vs, hw, aw⟩ := W.hw
    have lv : vs.length = ws.length := DpAll.length aw
    refine ⟨_, (pss_cons (ps_if (PW.pt (pw_or (pt_not (pt_val (pe_callB call_isi (by rfl) T.z_isinstance (by decide +kernel) (pa_cons (pv 1) (pa_cons (pe_bltn (v := .ty "str") (by rfl) T.z_str (by decide +kernel) rfl) pa_nil))))) (pw_or1 (pt_cmpR op_notIn_seq (pv 1) (pe_glob (v := .ref (ga K "SIGNS")) (by rfl) T.g_SIGNS rfl) (by rfl))))) (pss_one (rs (by rfl) (takes_of rfl rfl rfl rfl) T.x_NoCondition (by rfl))) pss_nil)
      (pss_one (ps_for (passes_of rfl) rfl (pi_tup (pe_tup (pa_cons (pv 2) (pa_cons (pv 3) pa_nil)))) (pg_name (i := 4) sc_Web_look.nd rfl (.inl rfl))
      (pss_one (ps_if (PW.pt (pw_or (pt_not (pt_val (cl D_is_whole (hr.mono (by decide)) (pa_cons (pv 4) pa_nil)))) (pw_or1 (pt_not (pt_chain op_le op_lt pe_int (pv 4) (pe_callB call_len_seq (by rfl) T.z_len (by decide +kernel) (pa_cons (pe_fld (pv 0) rfl) pa_nil))))))) (pss_one (rsx (by rfl) (takes_of rfl rfl rfl rfl) hP T.y_NoPoint.1 hr (pa_cons (pv 4) pa_nil))) pss_nil))))), ?_⟩
    refine ⟨_, rfl, _, _, _, _, _, rfl, .ty _, Dp.ty h0, kit_d K .str d0, _, rfl, ?_⟩
    by_cases w0 : ∃ z, d0 = .str z
    · obtain ⟨z, rfl⟩ := w0
      cases h0
      refine iteF ?_
      refine ⟨_, rfl, _, _, rfl, .inr (T.t_SIGNS _), rfl, rfl, _, rfl, ie (fun c => ?_) (fun c => ?_)⟩
      · have c' : (!inV (.str z) sgV) = true := c
        refine hE0 ?_
        show inV (.str z) sgV = false
        cases hv : inV (.str z) sgV with
        | false => rfl
        | true => rw [hv] at c'; cases c'
      · have c' : (!inV (.str z) sgV) = false := c
        have hs : signOk (.str z) = true := by
          show inV (.str z) sgV = true
          cases hv : inV (.str z) sgV with
          | true => rfl
          | false => rw [hv] at c'; cases c'
        refine ⟨_, rfl, _, rfl, (by show 2 ≤ sizeLine; decide), fun p np => ?_⟩
        generalize eH1 : upd H p _ = H1
        have s1 : Same H H1 := eH1 ▸ same_upd np
        have e1 : H1 p = some _ := eH1 ▸ upd_same
        refine ⟨_, rfl, ⟨_, SqT.of e1⟩, ?_⟩
        refine for_tup (xs := [v1, v2]) (fun i σ H' => H1 = H' ∧ (∃ o, σ = [some (.ref x), some (.str z), some v1, some v2, o]) ∧ (1 ≤ i → numOk ws.length d1 = true) ∧ (2 ≤ i → numOk ws.length d2 = true)) ⟨rfl, ⟨none, rfl⟩, fun z => absurd z (by decide), fun z => absurd z (by decide)⟩ (fun i σ H' _ h => by rw [← h.1]; exact SqT.of e1) ?_ ?_
        · rintro i xv σ H' hg ⟨rfl, ⟨o, rfl⟩, k1, k2⟩
          have key : ∃ d, Dp K H1 xv d ∧ (numOk ws.length d = true → (1 ≤ i + 1 → numOk ws.length d1 = true) ∧ (2 ≤ i + 1 → numOk ws.length d2 = true)) ∧ (numOk ws.length d = false → ∀ dd H', Same H1 H' → H' dd = some (xNum xv) → E (.ref (ga K "NoPoint")) (some dd) H') := by
            match i, hg with
            | 0, hg =>
              cases hg
              exact ⟨d1, Dp.same s1 h1, fun z => ⟨fun _ => z, fun z => absurd z (by decide)⟩, fun z dd H' s' e' => hE1 hs z dd H' (s1.trans s') e'⟩
            | 1, hg =>
              cases hg
              exact ⟨d2, Dp.same s1 h2, fun z => ⟨fun _ => k1 (by decide), fun _ => z⟩, fun z dd H' s' e' => hE2 hs (k1 (by decide)) z dd H' (s1.trans s') e'⟩
          obtain ⟨d, hd, good, bad⟩ := key
          have raise : numOk ws.length d = false → ∀ dd, H1 dd = none → E (.ref (ga K "NoPoint")) (some dd) (upd H1 dd (xNum xv)) := fun z dd nd => bad z dd _ (same_upd nd) upd_same
          refine ⟨_, rfl, xv, .d d, rfl, hd, _, rfl, ?_⟩
          rw [isWholeT_d]
          by_cases w1 : ∃ n, d = .int n
          · obtain ⟨n, rfl⟩ := w1
            cases hd
            refine iteF ?_
            refine ⟨_, rfl, _, _, rfl, rfl, _, rfl, ie (fun c1 => ?_) (fun c1 => ?_)⟩
            · refine ⟨_, rfl, _, _, _, _, _, rfl, s1 _ _ W.hx, T.o_Web.cl, T.n_Web_worths, webF_worths, _, _, rfl, .inl (SqL.of (s1 _ _ hw)), _, _, rfl, rfl, _, rfl, ?_⟩
              rw [lv]
              refine ie (fun c2 => ?_) (fun c2 => ?_)
              · have c2' : (!decide (n < (ws.length : Int))) = true := c2
                refine ⟨_, rfl, _, rfl, fun dd nd => ?_⟩
                refine raise ?_ dd nd
                show (decide (0 ≤ n) && decide (n < (ws.length : Int))) = false
                cases hv : decide (n < (ws.length : Int)) with
                | true => rw [hv] at c2'; cases c2'
                | false => rw [Bool.and_false]
              · have c2' : (!decide (n < (ws.length : Int))) = false := c2
                have c1' : decide (0 ≤ n) = true := c1
                have ok : numOk ws.length (.int n) = true := by
                  show (decide (0 ≤ n) && decide (n < (ws.length : Int))) = true
                  rw [c1', Bool.true_and]
                  cases hv : decide (n < (ws.length : Int)) with
                  | true => rfl
                  | false => rw [hv] at c2'; cases c2'
                obtain ⟨g1, g2⟩ := good ok
                exact ⟨rfl, ⟨_, rfl⟩, g1, g2⟩
            · have c1' : decide (0 ≤ n) = false := c1
              refine ⟨_, rfl, ?_⟩
              refine iteT ?_
              refine ⟨_, rfl, _, rfl, fun dd nd => ?_⟩
              refine raise ?_ dd nd
              show (decide (0 ≤ n) && decide (n < (ws.length : Int))) = false
              rw [c1', Bool.false_and]
          · have e2 : isWholeD d = false := by
              cases d <;> first | rfl | exact absurd ⟨_, rfl⟩ w1
            rw [e2]
            refine iteT ?_
            refine ⟨_, rfl, xv, rfl, fun dd nd => ?_⟩
            exact raise (by cases d <;> first | rfl | exact absurd ⟨_, rfl⟩ w1) dd nd
        · rintro σ H' ⟨rfl, ⟨o, rfl⟩, k1, k2⟩
          exact hQ hs (k1 (by show 1 ≤ 2; decide)) (k2 (by show 2 ≤ 2; decide)) H1 s1
    · have e2 : isTy .str d0 = false := by
        cases d0 <;> first | rfl | exact absurd ⟨_, rfl⟩ w0
      rw [e2]
      refine iteT ?_
      exact hE0 (by cases d0 <;> first | rfl | exact absurd ⟨_, rfl⟩ w0)
/-! demand, twin -/
def sgT (v0 v1 v2 : V) : List V := [v0, v1, v2]
def spDemand (K : PySem.W.Frag) : Sp := fun vs H Q E => ∃ x dx lw lt kd ws ds v0 v1 v2 d0 d1 d2, vs = [.ref x, v0, v1, v2] ∧ Wb K H x dx lw lt kd ws ds ∧ Dp K H v0 d0 ∧ Dp K H v1 d1 ∧ Dp K H v2 d2 ∧ ds.length < 1000 ∧ lt ≠ lw ∧
  (signOk d0 = false → E (.ref (ga K "NoCondition")) none H) ∧
  (signOk d0 = true → numOk ws.length d1 = false → ∀ dd H', Same H H' → H' dd = some (xNum v1) → E (.ref (ga K "NoPoint")) (some dd) H') ∧
  (signOk d0 = true → numOk ws.length d1 = true → numOk ws.length d2 = false → ∀ dd H', Same H H' → H' dd = some (xNum v2) → E (.ref (ga K "NoPoint")) (some dd) H') ∧
  (signOk d0 = true → numOk ws.length d1 = true → numOk ws.length d2 = true → ∀ H', Md [lt] H H' → Wb K H' x dx lw lt kd ws (ds ++ [.tuple [d0, d1, d2]]) → Q .non H')
theorem pd_want {d0 d1 d2 : PyData} {m : Nat} (h0 : signOk d0 = true) (h1 : numOk m d1 = true) (h2 : numOk m d2 = true) : Pd (.tuple [d0, d1, d2]) := by
  match d0, h0 with
  | .str z, h0 =>
  match d1, h1 with
  | .int i, _ =>
  match d2, h2 with
  | .int j, _ =>
  refine ⟨rfl, ?_, by show 1 ≤ 16; decide⟩
  have hz : PyData.strOk z = true := by
    have h : inV (.str z) sgV = true := h0
    unfold inV sgV at h
    simp only [List.any_cons, List.any_nil, Bool.or_false, Bool.or_eq_true] at h
    have k : ∀ y : Str, eqV (.str y) (.str z) = true → y = z := fun y e => by
      have e' : (y == z) = true := e
      exact beq_iff_eq.mp e'
    rcases h with h | h | h | h <;> rw [← k _ h] <;> decide +kernel
  show (PyData.strOk z && (true && (true && true))) = true
  rw [hz]
  rfl
theorem d_demand (hP : PF P "/claim/cut.py") (T : Txt K mg) : FnR P w K mg base (L2.CX P w) 3 (ma K (ga K "Web") "demand") (spDemand K) := by
  obtain ⟨fd, F⟩ := T.f_Web_demand
  have D_look := d_look (w := w) (base := base) hP T
  refine fnN F (fun _ _ _ _ _ _ us hl => match us, hl with | [_, _, _, _], _ => rfl) sc_Web_demand (fun vs H Q E h => ?_) (fun cdv A outer s H vs Q E hr h => ?_)
  · obtain ⟨x, dx, lw, lt, kd, ws, ds, v0, v1, v2, d0, d1, d2, rfl, _⟩ := h
    rfl
  · obtain ⟨x, dx, lw, lt, kd, ws, ds, v0, v1, v2, d0, d1, d2, rfl, W, h0, h1, h2, hl, hne, hE0, hE1, hE2, hQ⟩ := h
    obtain ⟨n1, n2, n3, n4, n5⟩ := W.ne1
    refine ⟨_, (pss_cons (ps_expr (pe_methE (pv 0) T.o_Web.cl T.h_Web_look D_look hr (pxx (takes_of rfl rfl rfl rfl)) (pa_cons (pv 1) (pa_cons (pv 2) (pa_cons (pv 3) pa_nil)))))
      (pss_one (ps_expr (pe_bm PySem.F.plainAttrs_list PySem.F.slot_list_append PySem.F.type_list_append mt_append (pe_fld (pv 0) rfl) (pa_cons (pe_tup (pa_cons (pv 1) (pa_cons (pv 2) (pa_cons (pv 3) pa_nil)))) pa_nil))))), ?_⟩
    refine ⟨_, rfl, _, _, _, rfl, W.hx, webF_no (by decide) (by decide) (by decide), _, rfl, _, rfl, _, rfl, ?_⟩
    refine ⟨x, dx, lw, lt, kd, ws, ds, v0, v1, v2, d0, d1, d2, rfl, W, h0, h1, h2, hE0, hE1, hE2, fun g0 g1 g2 H1 s1 => ?_⟩
    obtain ⟨hx, ⟨u1, e1, a1⟩, ⟨u2, e2, a2⟩, ⟨kn, e3, a3⟩, pw, pd⟩ := W.same s1
    have lv : u2.length = ds.length := DpAll.length a2
    refine ⟨_, rfl, _, _, _, _, _, rfl, hx, T.o_Web.cl, T.n_Web_wants, webF_wants, .inl ⟨rfl, _, SqL.of e2⟩, _, rfl, _, rfl, _, rfl, (by show 3 ≤ sizeLine; decide), fun p np => ?_⟩
    generalize eH2 : upd H1 p _ = H2
    have s2 : Same H1 H2 := eH2 ▸ same_upd np
    have h2' : H2 p = some _ := eH2 ▸ upd_same
    refine ⟨lt, _, _, rfl, rfl, s2 _ _ e2, (by rw [lv]; exact Nat.lt_trans hl (by decide)), ?_⟩
    generalize eH : upd H2 lt _ = H3
    have m3 : Md [lt] H2 H3 := eH ▸ Md.upd (s2 _ _ e2) rfl (by simp)
    have t3 : H3 lt = some (.lst (u2 ++ [.ref p])) := eH ▸ upd_same
    have s12 := s1.trans s2
    have hd : Dp K H2 (.ref p) (.tuple [d0, d1, d2]) := .tup (SqT.of h2') (.cons (Dp.same s12 h0) (.cons (Dp.same s12 h1) (.cons (Dp.same s12 h2) .nil)))
    have pdn := pd_want g0 g1 g2
    refine hQ g0 g1 g2 H3 ((Md.of s12).trans m3) ⟨m3.out _ _ (s2 _ _ hx) (by simp [n2]), ⟨u1, m3.out _ _ (s2 _ _ e1) (by simp; exact Ne.symm hne), m3.dpAll pw.nl (DpAll.same s2 a1)⟩, ⟨_, t3, DpAll.snoc (m3.dp pdn.nl hd) (m3.dpAll pd.nl (DpAll.same s2 a2))⟩, ⟨kn, m3.out _ _ (s2 _ _ e3) (by simp; exact Ne.symm n5), a3⟩, pw, pd.snoc pdn⟩
def spTwin (K : PySem.W.Frag) : Sp := fun vs H Q _ => ∃ x dx lw lt kd ws ds, vs = [.ref x] ∧ Wb K H x dx lw lt kd ws ds ∧ ws.length < 1000 ∧ ds.length < 1000 ∧
  ∀ x' dx' lw' lt' kd' H', Same H H' → H x' = none → H lw' = none → H lt' = none → H kd' = none → lw' ≠ lt' → Wb K H' x' dx' lw' lt' kd' ws ds → Q (.ref x') H'
theorem d_twin (T : Txt K mg) : FnR P w K mg base CX0 3 (ma K (ga K "Web") "twin") (spTwin K) := by
  obtain ⟨fd, F⟩ := T.f_Web_twin
  obtain ⟨fdI, FI, okI⟩ := ok_init (P := P) (w := w) (base := base) T
  have D_init := fnD FI okI 4 3 (by simp) rfl (fun _ _ _ _ _ _ _ us its h1 h2 => match us, its, h1, h2 with | [_, _, _, _], [_, _, _], _, _ => ⟨_, rfl, rfl⟩)
  refine fnN F (fun _ _ _ _ _ _ us hl => match us, hl with | [_], _ => rfl) sc_Web_twin (fun vs H Q E h => ?_) (fun cdv A outer s H vs Q E hr h => ?_)
  · obtain ⟨x, dx, lw, lt, kd, ws, ds, rfl, _⟩ := h
    rfl
  · obtain ⟨x, dx, lw, lt, kd, ws, ds, rfl, W, hl, hl2, hQ⟩ := h
    refine ⟨_, PSs.nox (pss_one (ps_ret (pe_makeE T.m_Web D_init hr T.g_Web px0 (pa_cons (pe_fld (pv 0) rfl) (pa_cons (pe_fld (pv 0) rfl) (pa_cons (pe_fld (pv 0) rfl) pa_nil)))))), ?_⟩
    obtain ⟨hx, ⟨u1, e1, a1⟩, ⟨u2, e2, a2⟩, ⟨kn, e3, a3⟩, pw, pd⟩ := W
    refine ⟨_, rfl, _, _, _, _, _, rfl, hx, T.o_Web.cl, T.n_Web_worths, webF_worths, _, rfl, _, _, _, _, _, rfl, hx, T.o_Web.cl, T.n_Web_wants, webF_wants, _, rfl, _, _, _, _, _, rfl, hx, T.o_Web.cl, T.n_Web_known, webF_known, fun y dy ny ndy hne => ?_⟩
    generalize eH1 : upd (upd H dy _) y _ = H1
    have s1 : Same H H1 := eH1 ▸ (same_upd ndy).trans (same_upd (by rw [upd_ne (Ne.symm hne)]; exact ny))
    have y1 : H1 y = some (.ins (aWeb K) dy []) := eH1 ▸ upd_same
    refine ⟨y, dy, lw, lt, .ref kd, u1, u2, kn, rfl, y1, .inl (SqL.of (s1 _ _ e1)), .inl (SqL.of (s1 _ _ e2)), .inr ⟨kd, rfl, s1 _ _ e3⟩, a3.nd, Nat.lt_of_le_of_lt a3.len hl, (by rw [DpAll.length a1]; omega), (by rw [DpAll.length a2]; omega), fun lw' lt' kd' H' m' nw nt nk hnn x' w' t' k' => ⟨rfl, ?_⟩⟩
    have sH : Same H H' := fun b o hb => m'.out _ _ (s1 _ _ hb) (by simp; exact ne_of_none hb ny)
    have fr : ∀ {b : Addr}, H1 b = none → H b = none := fun {b} hb => by
      cases hh : H b with
      | none => rfl
      | some o => rw [s1 _ _ hh] at hb; cases hb
    exact hQ y dy lw' lt' kd' H' sH ny (fr nw) (fr nt) (fr nk) hnn ⟨x', ⟨_, w', DpAll.same sH a1⟩, ⟨_, t', DpAll.same sH a2⟩, ⟨_, k', a3⟩, pw, pd⟩
end
end K06
namespace K06
open PySem PySem.Spec PyProof.Rows L2 He TL EL
section
variable {P : Program} {w : World} {K : PySem.W.Frag} {mg : Str → Option Value} {base : Heap}
def dueD (m : Nat) (d0 d1 d2 : PyData) : List PyData := if signOk d0 = false then [.str "condition", .bool true] else if numOk m d1 = false then [.str "point", d1, .bool true] else if numOk m d2 = false then [.str "point", d2, .bool true] else [.str "done"]
theorem due0 {m : Nat} {d0 d1 d2 : PyData} (h : signOk d0 = false) : dueD m d0 d1 d2 = [.str "condition", .bool true] := if_pos h
theorem due1 {m : Nat} {d0 d1 d2 : PyData} (h : signOk d0 = true) (h1 : numOk m d1 = false) : dueD m d0 d1 d2 = [.str "point", d1, .bool true] := by
  unfold dueD; rw [if_neg (by rw [h]; decide), if_pos h1]
theorem due2 {m : Nat} {d0 d1 d2 : PyData} (h : signOk d0 = true) (h1 : numOk m d1 = true) (h2 : numOk m d2 = false) : dueD m d0 d1 d2 = [.str "point", d2, .bool true] := by
  unfold dueD; rw [if_neg (by rw [h]; decide), if_neg (by rw [h1]; decide), if_pos h2]
theorem due3 {m : Nat} {d0 d1 d2 : PyData} (h : signOk d0 = true) (h1 : numOk m d1 = true) (h2 : numOk m d2 = true) : dueD m d0 d1 d2 = [.str "done"] := by
  unfold dueD; rw [if_neg (by rw [h]; decide), if_neg (by rw [h1]; decide), if_neg (by rw [h2]; decide)]
/-! _law_state -/
def spState (K : PySem.W.Frag) : Sp := fun vs H Q _ => vs = [.int 0] ∧ ∀ p q r H', Same H H' → H p = none → H q = none → H r = none → p ≠ q → p ≠ r → q ≠ r → H' p = some (.lst [.ref q, .ref r]) → H' q = some (.lst []) → H' r = some (.lst []) → Q (.ref p) H'
theorem d_state (T : Txt K mg) : Dn P w K mg base CX0 1 "_law_state" (spState K) := by
  obtain ⟨fd, F⟩ := T.f__law_state
  refine dnN T.g__law_state F (fun _ _ _ _ _ _ us hl => match us, hl with | [_], _ => rfl) sc__law_state (fun vs H Q E h => ?_) (fun cdv A outer s H vs Q E hr h => ?_)
  · obtain ⟨rfl, _⟩ := h
    rfl
  · obtain ⟨rfl, hQ⟩ := h
    refine ⟨_, PSs.nox (pss_one (ps_ret (pe_lst (pa_cons (pe_lc (own := [("_law_turn", 1)]) (tt := tYes) (by rfl) sc__law_state.nd (pi_range1 (by rfl) T.z_range (pa_cons (pv 0) pa_nil)) (blkOk_by (own := [("_law_turn", 1)]) (N := ["_law_points", "_law_turn"]) (sc := defScope s__law_state) (by decide +kernel)) (fun _ _ _ _ _ => (pg_name (i := 1) sc__law_state.nd rfl (.inl rfl))) (fun _ _ _ _ _ => pts_nil) (fun _ _ _ _ _ => pe_non)) (pa_cons (pe_lst pa_nil) pa_nil))))), ?_⟩
    refine ⟨_, rfl, _, rfl, by decide, by decide, fun D nD => ?_⟩
    refine lc_range (n := 0) (fun i H' => H' = upd H D (.lst [])) rfl (fun i H' hi => absurd hi (by omega)) ?_
    rintro H1 e1
    have s1 : Same H H1 := e1 ▸ same_upd nD
    have h1 : H1 D = some (.lst []) := e1 ▸ upd_same
    refine ⟨(by show 0 ≤ sizeLine; decide), fun r nr => ?_⟩
    generalize eH2 : upd H1 r _ = H2
    have s2 : Same H1 H2 := eH2 ▸ same_upd nr
    have h2 : H2 r = some _ := eH2 ▸ upd_same
    refine ⟨(by show 2 ≤ sizeLine; decide), fun p np => ?_⟩
    generalize eH3 : upd H2 p _ = H3
    have s3 : Same H2 H3 := eH3 ▸ same_upd np
    have h3 : H3 p = some _ := eH3 ▸ upd_same
    exact hQ p D r H3 (s1.trans (s2.trans s3)) (s1.free (s2.free np)) nD (s1.free nr) (Ne.symm (ne_of_none (s2 _ _ h1) np)) (Ne.symm (ne_of_none h2 np)) (ne_of_none h1 nr) h3 (s3 _ _ (s2 _ _ h1)) (s3 _ _ h2)
/-! _law_due -/
def StrNo (d : PyData) : Prop := (∃ z, d = .str z) ∨ d = .none
def spDue (K : PySem.W.Frag) : Sp := fun vs H Q _ => ∃ v0 v1 v2 d0 d1 d2 m, vs = [v0, v1, v2, .int (m : Nat)] ∧ StrNo d0 ∧ Dp K H v0 d0 ∧ Dp K H v1 d1 ∧ Dp K H v2 d2 ∧ ∀ p us H', H p = none → Same H H' → H' p = some (.lst us) → DpAll K H' us (dueD m d0 d1 d2) → Q (.ref p) H'
theorem d_due (T : Txt K mg) : Dn P w K mg base CX0 1 "_law_due" (spDue K) := by
  obtain ⟨fd, F⟩ := T.f__law_due
  refine dnN T.g__law_due F (fun _ _ _ _ _ _ us hl => match us, hl with | [_, _, _, _], _ => rfl) sc__law_due (fun vs H Q E h => ?_) (fun cdv A outer s H vs Q E hr h => ?_)
  · obtain ⟨v0, v1, v2, d0, d1, d2, m, rfl, _⟩ := h
    rfl
  · obtain ⟨v0, v1, v2, d0, d1, d2, m, rfl, hst, h0, h1, h2, hQ⟩ := h
    have fl0 : flatV v0 = true ∧ inV v0 sgV = signOk d0 := by
      rcases hst with ⟨z, rfl⟩ | rfl
      · cases h0; exact ⟨rfl, rfl⟩
      · cases h0; exact ⟨rfl, rfl⟩
    refine ⟨_, PSs.nox (pss_cons (ps_if (pt_cmpR op_notIn_seq (pv 0) (pe_lst (pa_cons pe_str (pa_cons pe_str (pa_cons pe_str (pa_cons pe_str pa_nil))))) (by rfl)) (pss_one (ps_ret (pe_lst (pa_cons pe_str (pa_cons pe_bl pa_nil))))) pss_nil)
      (pss_cons (ps_for PassesOwn.never rfl (pi_list (pe_lst (pa_cons (pv 1) (pa_cons (pv 2) pa_nil)))) (pg_name (i := 4) sc__law_due.nd rfl (.inl rfl))
      (pss_one (ps_if (PW.pt (pw_or (pt_not (pt_val (pe_callB call_isi (by rfl) T.z_isinstance (by decide +kernel) (pa_cons (pv 4) (pa_cons (pe_bltn (v := .ty "int") (by rfl) T.z_int (by decide +kernel) rfl) pa_nil))))) (pw_or (pt_val (pe_callB call_isi (by rfl) T.z_isinstance (by decide +kernel) (pa_cons (pv 4) (pa_cons (pe_bltn (v := .ty "bool") (by rfl) T.z_bool (by decide +kernel) rfl) pa_nil)))) (pw_or1 (pt_not (pt_chain op_le op_lt pe_int (pv 4) (pv 3))))))) (pss_one (ps_ret (pe_lst (pa_cons pe_str (pa_cons (pv 4) (pa_cons pe_bl pa_nil)))))) pss_nil)))
      (pss_one (ps_ret (pe_lst (pa_cons pe_str pa_nil)))))), ?_⟩
    refine ⟨_, rfl, (by show 4 ≤ sizeLine; decide), fun l nl => ?_⟩
    generalize eH1 : upd H l _ = H1
    have s1 : Same H H1 := eH1 ▸ same_upd nl
    have e1 : H1 l = some _ := eH1 ▸ upd_same
    refine ⟨_, _, rfl, .inl (SqL.of e1), fl0.1, rfl, _, rfl, ie (fun c => ?_) (fun c => ?_)⟩
    · have c' : (!inV v0 sgV) = true := c
      have hs : signOk d0 = false := by
        rw [← fl0.2]
        cases hv : inV v0 sgV with
        | false => rfl
        | true => rw [hv] at c'; cases c'
      refine ⟨(by show 2 ≤ sizeLine; decide), fun p np => ?_⟩
      generalize eH2 : upd H1 p _ = H2
      have s2 : Same H1 H2 := eH2 ▸ same_upd np
      have e2 : H2 p = some _ := eH2 ▸ upd_same
      refine hQ p _ H2 (s1.free np) (s1.trans s2) e2 ?_
      rw [due0 hs]
      exact .cons (.str _) (.cons (.bl _) .nil)
    · have c' : (!inV v0 sgV) = false := c
      have hs : signOk d0 = true := by
        rw [← fl0.2]
        cases hv : inV v0 sgV with
        | true => rfl
        | false => rw [hv] at c'; cases c'
      refine ⟨_, rfl, _, rfl, (by show 2 ≤ sizeLine; decide), fun l2 nl2 => ?_⟩
      generalize eH2 : upd H1 l2 _ = H2
      have s2 : Same H1 H2 := eH2 ▸ same_upd nl2
      have e2 : H2 l2 = some _ := eH2 ▸ upd_same
      have s12 := s1.trans s2
      refine ⟨_, rfl, ⟨_, SqL.of e2⟩, ?_⟩
      refine for_list (xs := [v1, v2]) (fun i σ H' => H2 = H' ∧ (∃ o, σ = [some v0, some v1, some v2, some (.int (m : Nat)), o]) ∧ (1 ≤ i → numOk m d1 = true) ∧ (2 ≤ i → numOk m d2 = true)) ⟨rfl, ⟨none, rfl⟩, fun z => absurd z (by decide), fun z => absurd z (by decide)⟩ (fun i σ H' _ h => by rw [← h.1]; exact SqL.of e2) ?_ ?_
      · rintro i xv σ H' hg ⟨rfl, ⟨o, rfl⟩, k1, k2⟩
        have key : ∃ d, Dp K H2 xv d ∧ (numOk m d = true → (1 ≤ i + 1 → numOk m d1 = true) ∧ (2 ≤ i + 1 → numOk m d2 = true)) ∧ (numOk m d = false → dueD m d0 d1 d2 = [.str "point", d, .bool true]) := by
          match i, hg with
          | 0, hg =>
            cases hg
            exact ⟨d1, Dp.same s12 h1, fun z => ⟨fun _ => z, fun z => absurd z (by decide)⟩, fun z => due1 hs z⟩
          | 1, hg =>
            cases hg
            exact ⟨d2, Dp.same s12 h2, fun z => ⟨fun _ => k1 (by decide), fun _ => z⟩, fun z => due2 hs (k1 (by decide)) z⟩
        obtain ⟨d, hd, good, bad⟩ := key
        have back : numOk m d = false → ∀ p, H2 p = none → Q (.ref p) (upd H2 p (.lst [.str "point", xv, .bl true])) := fun z p np => by
          refine hQ p _ _ (s12.free np) (s12.trans (same_upd np)) upd_same ?_
          rw [bad z]
          exact .cons (.str _) (.cons (Dp.same (same_upd np) hd) (.cons (.bl _) .nil))
        refine ⟨_, rfl, _, _, _, _, _, rfl, .ty _, Dp.ty hd, kit_d K .int d, _, rfl, ?_⟩
        by_cases w1 : ∃ n, d = .int n
        · obtain ⟨n, rfl⟩ := w1
          cases hd
          refine iteF ?_
          refine ⟨_, rfl, _, _, _, _, _, rfl, .ty _, Dp.ty (.int n), kit_d K .bl (.int n), _, rfl, iteF ?_⟩
          refine ⟨_, rfl, _, _, rfl, rfl, _, rfl, ie (fun c1 => ?_) (fun c1 => ?_)⟩
          · have c1' : decide (0 ≤ n) = true := c1
            refine ⟨_, rfl, _, _, rfl, rfl, _, rfl, ie (fun c2 => ?_) (fun c2 => ?_)⟩
            · have c2' : (!decide (n < (m : Int))) = true := c2
              refine ⟨_, rfl, (by show 3 ≤ sizeLine; decide), fun p np => ?_⟩
              refine back ?_ p np
              show (decide (0 ≤ n) && decide (n < (m : Int))) = false
              cases hv : decide (n < (m : Int)) with
              | true => rw [hv] at c2'; cases c2'
              | false => rw [Bool.and_false]
            · have c2' : (!decide (n < (m : Int))) = false := c2
              have ok : numOk m (.int n) = true := by
                show (decide (0 ≤ n) && decide (n < (m : Int))) = true
                rw [c1', Bool.true_and]
                cases hv : decide (n < (m : Int)) with
                | true => rfl
                | false => rw [hv] at c2'; cases c2'
              obtain ⟨g1, g2⟩ := good ok
              exact ⟨rfl, ⟨_, rfl⟩, g1, g2⟩
          · have c1' : decide (0 ≤ n) = false := c1
            refine ⟨_, rfl, iteT ?_⟩
            refine ⟨_, rfl, (by show 3 ≤ sizeLine; decide), fun p np => ?_⟩
            refine back ?_ p np
            show (decide (0 ≤ n) && decide (n < (m : Int))) = false
            rw [c1', Bool.false_and]
        · have hb : numOk m d = false := by cases d <;> first | rfl | exact absurd ⟨_, rfl⟩ w1
          by_cases w2 : ∃ b, d = .bool b
          · obtain ⟨b, rfl⟩ := w2
            refine iteF ?_
            refine ⟨_, rfl, _, _, _, _, _, rfl, .ty _, Dp.ty hd, kit_d K .bl (.bool b), _, rfl, iteT ?_⟩
            refine ⟨_, rfl, (by show 3 ≤ sizeLine; decide), fun p np => ?_⟩
            exact back hb p np
          · have e2 : isTy .int d = false := by
              cases d <;> first | rfl | exact absurd ⟨_, rfl⟩ w1 | exact absurd ⟨_, rfl⟩ w2
            rw [e2]
            refine iteT ?_
            refine ⟨_, rfl, (by show 3 ≤ sizeLine; decide), fun p np => ?_⟩
            exact back hb p np
      · rintro σ H' ⟨rfl, ⟨o, rfl⟩, k1, k2⟩
        refine ⟨(by show 1 ≤ sizeLine; decide), fun p np => ?_⟩
        refine hQ p _ _ (s12.free np) (s12.trans (same_upd np)) upd_same ?_
        rw [due3 hs (k1 (by show 1 ≤ 2; decide)) (k2 (by show 2 ≤ 2; decide))]
        exact .cons (.str _) .nil
end
end K06
namespace K06
open PySem PySem.Spec PyProof.Rows L2 He TL EL
section
variable {P : Program} {w : World} {K : PySem.W.Frag} {mg : Str → Option Value} {base : Heap}
/-! _law_demanded -/
def spDemanded (K : PySem.W.Frag) : Sp := fun vs H Q _ => ∃ x dx lw lt kd ws ds v0 v1 v2 d0 d1 d2, vs = [.ref x, v0, v1, v2] ∧ Wb K H x dx lw lt kd ws ds ∧ Dp K H v0 d0 ∧ Dp K H v1 d1 ∧ Dp K H v2 d2 ∧ ds.length < 1000 ∧ lt ≠ lw ∧
  ∀ p H' ds', Md [lt] H H' → Dp K H' (.ref p) (.list (dueD ws.length d0 d1 d2)) → ds' = (if (signOk d0 && numOk ws.length d1 && numOk ws.length d2) = true then ds ++ [.tuple [d0, d1, d2]] else ds) → Wb K H' x dx lw lt kd ws ds' → Q (.ref p) H'
theorem d_demanded (hP : PF P "/claim/cut.py") (T : Txt K mg) : Dn P w K mg base CX0 4 "_law_demanded" (spDemanded K) := by
  obtain ⟨fd, F⟩ := T.f__law_demanded
  have D_demand := d_demand (w := w) (base := base) hP T
  refine dnN T.g__law_demanded F (fun _ _ _ _ _ _ us hl => match us, hl with | [_, _, _, _], _ => rfl) sc__law_demanded (fun vs H Q E h => ?_) (fun cdv A outer s H vs Q E hr h => ?_)
  · obtain ⟨x, dx, lw, lt, kd, ws, ds, v0, v1, v2, d0, d1, d2, rfl, _⟩ := h
    rfl
  · obtain ⟨x, dx, lw, lt, kd, ws, ds, v0, v1, v2, d0, d1, d2, rfl, W, h0, h1, h2, hl, hne, hQ⟩ := h
    refine ⟨_, PSs.nox (pss_cons (ps_try_mix (by rfl) (by rfl) sc__law_demanded.nd takes0 (fun W pn xe tk po => (pss_one (ps_expr (pe_methE (pv 0) T.o_Web.cl T.h_Web_demand D_demand hr (pxx tk) (pa_cons (pv 1) (pa_cons (pv 2) (pa_cons (pv 3) pa_nil)))))))
      (HdsMix.as_ (i := 4) rfl (by rfl) ⟨rfl, by decide, .inl T.x_NoCondition.g⟩ (fun a oe cls d pn hz hf => (pss_one (ps_ret (pe_lst (pa_cons pe_str (pa_cons (pe_callB (call_isY hz) (by rfl) T.z_isinstance (by decide +kernel) (pa_cons (pv 4) (pa_cons (pe_glob (v := .ref (ga K "AskError")) (by rfl) T.x_AskError.g rfl) pa_nil))) pa_nil)))))) (HdsMix.as_ (i := 4) rfl (by rfl) ⟨rfl, by decide, .inl T.g_NoPoint⟩ (fun a oe cls d pn hz hf => (pss_one (ps_ret (pe_lst (pa_cons pe_str (pa_cons (pe_xf T.y_NoPoint.2.1 T.y_NoPoint.2.2 hz hf (pv 4)) (pa_cons (pe_callB (call_isY hz) (by rfl) T.z_isinstance (by decide +kernel) (pa_cons (pv 4) (pa_cons (pe_glob (v := .ref (ga K "AskError")) (by rfl) T.x_AskError.g rfl) pa_nil))) pa_nil))))))) HdsMix.nil)))
      (pss_one (ps_ret (pe_lst (pa_cons pe_str pa_nil))))), ?_⟩
    refine ⟨_, rfl, _, _, _, rfl, W.hx, webF_no (by decide) (by decide) (by decide), _, rfl, _, rfl, _, rfl, ?_⟩
    refine ⟨x, dx, lw, lt, kd, ws, ds, v0, v1, v2, d0, d1, d2, rfl, W, h0, h1, h2, hl, hne, fun g0 => ?_, fun g0 g1 dd H1 s1 e1 => ?_, fun g0 g1 g2 dd H1 s1 e1 => ?_, fun g0 g1 g2 H1 m1 W1 => ?_⟩
    · refine ⟨true, T.e_NoCondition_NoCondition, fun _ a na => ?_, fun z => by cases z⟩
      refine ⟨_, rfl, _, _, rfl, fun u r => r, T.k_NoCondition_AskError, (by show 2 ≤ sizeLine; decide), fun p np => ?_⟩
      generalize eH1 : upd H p _ = H1
      have s1 : Same H H1 := eH1 ▸ same_upd np
      have e1 : H1 p = some _ := eH1 ▸ upd_same
      refine hQ p H1 ds (Md.of s1) ?_ ?_ (W.same s1)
      · rw [due0 g0]
        exact .lst (SqL.of e1) (.cons (.str _) (.cons (.bl _) .nil))
      · rw [g0]; rfl
    · refine ⟨false, T.e_NoPoint_NoCondition, fun z => (by cases z), fun _ => ⟨true, T.e_NoPoint_NoPoint, fun _ a na => ?_, fun z => by cases z⟩⟩
      refine ⟨_, rfl, rfl, rfl, dd, _, _, rfl, e1, rfl, _, rfl, _, _, rfl, fun u r => r, T.k_NoPoint_AskError, (by show 3 ≤ sizeLine; decide), fun p np => ?_⟩
      generalize eH2 : upd H1 p _ = H2
      have s2 : Same H1 H2 := eH2 ▸ same_upd np
      have e2 : H2 p = some _ := eH2 ▸ upd_same
      have s12 := s1.trans s2
      refine hQ p H2 ds (Md.of s12) ?_ ?_ (W.same s12)
      · rw [due1 g0 g1]
        exact .lst (SqL.of e2) (.cons (.str _) (.cons (Dp.same s12 h1) (.cons (.bl _) .nil)))
      · rw [g0, g1]; rfl
    · refine ⟨false, T.e_NoPoint_NoCondition, fun z => (by cases z), fun _ => ⟨true, T.e_NoPoint_NoPoint, fun _ a na => ?_, fun z => by cases z⟩⟩
      refine ⟨_, rfl, rfl, rfl, dd, _, _, rfl, e1, rfl, _, rfl, _, _, rfl, fun u r => r, T.k_NoPoint_AskError, (by show 3 ≤ sizeLine; decide), fun p np => ?_⟩
      generalize eH2 : upd H1 p _ = H2
      have s2 : Same H1 H2 := eH2 ▸ same_upd np
      have e2 : H2 p = some _ := eH2 ▸ upd_same
      have s12 := s1.trans s2
      refine hQ p H2 ds (Md.of s12) ?_ ?_ (W.same s12)
      · rw [due2 g0 g1 g2]
        exact .lst (SqL.of e2) (.cons (.str _) (.cons (Dp.same s12 h2) (.cons (.bl _) .nil)))
      · rw [g0, g1, g2]; rfl
    · refine ⟨(by show 1 ≤ sizeLine; decide), fun p np => ?_⟩
      generalize eH2 : upd H1 p _ = H2
      have s2 : Same H1 H2 := eH2 ▸ same_upd np
      have e2 : H2 p = some _ := eH2 ▸ upd_same
      refine hQ p H2 _ (m1.trans (Md.of s2)) ?_ ?_ (W1.same s2)
      · rw [due3 g0 g1 g2]
        exact .lst (SqL.of e2) (.cons (.str _) .nil)
      · rw [g0, g1, g2]; rfl
/-! _law_number -/
theorem atI_ex {xs : List V} {n : Int} (h0 : 0 ≤ n) (h1 : n < xs.length) : ∃ v, v ∈ xs ∧ atI xs n = some v := by
  obtain ⟨k, rfl⟩ := Int.eq_ofNat_of_zero_le h0
  have hk : k < xs.length := by omega
  exact ⟨xs[k], List.getElem_mem hk, atI_nat (List.getElem?_eq_getElem hk)⟩
def spNumber (K : PySem.W.Frag) : Sp := fun vs H Q _ => ∃ p l m, vs = [.ref p, .int (m : Nat)] ∧ Src H p l ∧ ∀ v d H', Md [p] H H' → Src H' p l → Dp K H' v d → Pd d → Q v H'
theorem d_number (T : Txt K mg) : Dn P w K mg base CX0 2 "_law_number" (spNumber K) := by
  obtain ⟨fd, F⟩ := T.f__law_number
  have D__law_draw := d_draw (P := P) (w := w) (base := base) T
  refine dnN T.g__law_number F (fun _ _ _ _ _ _ us hl => match us, hl with | [_, _], _ => rfl) sc__law_number (fun vs H Q E h => ?_) (fun cdv A outer s H vs Q E hr h => ?_)
  · obtain ⟨p, l, m, rfl, _⟩ := h
    rfl
  · obtain ⟨p, l, m, rfl, S, hQ⟩ := h
    obtain ⟨xs, hp⟩ := S.lst
    refine ⟨_, PSs.nox (pss_cons (ps_set (i := 2) sc__law_number.nd rfl (.inl rfl) (cl D__law_draw (hr.mono (by decide)) (pa_cons (pv 0) (pa_cons pe_int pa_nil))))
      (pss_cons (ps_if (pt_cmpR op_eq (pv 2) pe_int (nomark _)) (pss_one (ps_ret (pe_op op_add (pv 1) (cl D__law_draw (hr.mono (by decide)) (pa_cons (pv 0) (pa_cons pe_int pa_nil)))))) pss_nil)
      (pss_cons (ps_if (pt_cmpR op_eq (pv 2) pe_int (nomark _)) (pss_one (ps_ret (pe_ix ix_list (pe_lst (pa_cons (pe_un un_neg pe_int) (pa_cons pe_non (pa_cons pe_bl (pa_cons pe_str (pa_cons (pe_tup (pa_cons pe_int (pa_cons pe_int pa_nil))) pa_nil)))))) (cl D__law_draw (hr.mono (by decide)) (pa_cons (pv 0) (pa_cons pe_int pa_nil))) (fun _ _ => rfl)))) pss_nil)
      (pss_one (ps_ret (pe_op op_mod (cl D__law_draw (hr.mono (by decide)) (pa_cons (pv 0) (pa_cons pe_int pa_nil))) (pe_op op_add (pv 1) pe_int))))))), ?_⟩
    refine ⟨_, rfl, p, l, 8, rfl, by decide, by decide, S, fun n H1 n0 n1 S1 b1 => ?_⟩
    have m1 : Md [p] H H1 := b1.md hp rfl
    obtain ⟨xs1, hp1⟩ := S1.lst
    refine ⟨_, rfl, rfl, _, rfl, ie (fun c => ?_) (fun c => ?_)⟩
    · refine ⟨_, rfl, _, rfl, p, l, 3, rfl, by decide, by decide, S1, fun k H2 k0 k1 S2 b2 => ?_⟩
      exact ⟨_, _, rfl, rfl, hQ _ (.int _) H2 (m1.trans (b2.md hp1 rfl)) S2 (.int _) ⟨rfl, rfl, by show 0 ≤ 16; decide⟩⟩
    · refine ⟨_, rfl, rfl, _, rfl, ie (fun c2 => ?_) (fun c2 => ?_)⟩
      · refine ⟨_, rfl, (by show 2 ≤ sizeLine; decide), fun t nt => ?_⟩
        generalize eH2 : upd H1 t _ = H2
        have s2 : Same H1 H2 := eH2 ▸ same_upd nt
        have e2 : H2 t = some _ := eH2 ▸ upd_same
        refine ⟨(by show 5 ≤ sizeLine; decide), fun u nu => ?_⟩
        generalize eH3 : upd H2 u _ = H3
        have s3 : Same H2 H3 := eH3 ▸ same_upd nu
        have e3 : H3 u = some _ := eH3 ▸ upd_same
        have s13 := s2.trans s3
        refine ⟨_, rfl, p, l, 5, rfl, by decide, by decide, S1.same s13, fun k H4 k0 k1 S4 b4 => ?_⟩
        have up : u ≠ p := Ne.symm (ne_of_none (s2 _ _ hp1) nu)
        have m4 : Md [p] H3 H4 := b4.md (s13 _ _ hp1) rfl
        obtain ⟨v, hv, ha⟩ := atI_ex (xs := [.int (-1), .non, .bl true, .str "0", .ref t]) k0 k1
        refine ⟨u, _, _, v, rfl, rfl, SqL.of (b4 _ _ e3 up), ha, ?_⟩
        have t4 : Dp K H4 (.ref t) (.tuple [.int 0, .int 1]) := m4.dp rfl (.tup (SqT.of (s3 _ _ e2)) (.cons (.int _) (.cons (.int _) .nil)))
        have mm := m1.trans ((Md.of s13).trans m4)
        simp only [List.mem_cons, List.not_mem_nil, or_false] at hv
        rcases hv with rfl | rfl | rfl | rfl | rfl
        · exact hQ _ _ H4 mm S4 (.int _) ⟨rfl, rfl, by decide⟩
        · exact hQ _ _ H4 mm S4 .non ⟨rfl, rfl, by decide⟩
        · exact hQ _ _ H4 mm S4 (.bl _) ⟨rfl, rfl, by decide⟩
        · exact hQ _ _ H4 mm S4 (.str _) ⟨rfl, by decide +kernel, by decide⟩
        · exact hQ _ _ H4 mm S4 t4 ⟨rfl, rfl, by decide⟩
      · refine ⟨_, rfl, p, l, 60, rfl, by decide, by decide, S1, fun k H2 k0 k1 S2 b2 => ?_⟩
        refine ⟨_, rfl, _, _, rfl, rfl, _, _, rfl, rfl, (by show (0 : Int) < (m : Int) + 1; omega), ?_⟩
        exact hQ _ (.int _) H2 (m1.trans (b2.md hp1 rfl)) S2 (.int _) ⟨rfl, rfl, by show 0 ≤ 16; decide⟩
end
end K06
namespace K06
open PySem PySem.Spec PyProof.Rows L2 He TL EL
/-- a web and the law's state of it -/
structure Pr (K : PySem.W.Frag) (H : Hp) (x dx lw lt kd st q r : Addr) (ws ds : List PyData) : Prop where
  wb : Wb K H x dx lw lt kd ws ds
  hs : H st = some (.lst [.ref q, .ref r])
  hq : ∃ vs, H q = some (.lst vs) ∧ DpAll K H vs ws
  hr : ∃ vs, H r = some (.lst vs) ∧ DpAll K H vs ds
  nd : [x, lw, lt, kd, st, q, r].Nodup
theorem Pr.md {K : PySem.W.Frag} {H H' : Hp} {x dx lw lt kd st q r : Addr} {ws ds : List PyData} {S : List Addr} (W : Pr K H x dx lw lt kd st q r ws ds) (m : Md S H H') (h : ∀ b ∈ [x, lw, lt, kd, st, q, r], b ∉ S) : Pr K H' x dx lw lt kd st q r ws ds := by
  obtain ⟨wb, hs, ⟨v1, e1, a1⟩, ⟨v2, e2, a2⟩, nd⟩ := W
  exact ⟨wb.md m (h _ (by simp)) (h _ (by simp)) (h _ (by simp)) (h _ (by simp)), m.out _ _ hs (h _ (by simp)), ⟨v1, m.out _ _ e1 (h _ (by simp)), m.dpAll wb.pw.nl a1⟩, ⟨v2, m.out _ _ e2 (h _ (by simp)), m.dpAll wb.pd.nl a2⟩, nd⟩
theorem Pr.same {K : PySem.W.Frag} {H H' : Hp} {x dx lw lt kd st q r : Addr} {ws ds : List PyData} (W : Pr K H x dx lw lt kd st q r ws ds) (s : Same H H') : Pr K H' x dx lw lt kd st q r ws ds := W.md (S := []) (.of s) (by simp)
section
variable {P : Program} {w : World} {K : PySem.W.Frag} {mg : Str → Option Value} {base : Heap}
/-! _law_told -/
def spTold (K : PySem.W.Frag) : Sp := fun vs H Q _ => ∃ x dx lw lt kd st q r ws ds, vs = [.ref x, .ref st] ∧ Pr K H x dx lw lt kd st q r ws ds ∧ ws.length ≤ 1000 ∧ ds.length < 1000 ∧ ∀ H', Same H H' → Q (.bl true) H'
theorem d_told (T : Txt K mg) : Dn P w K mg base CX0 3 "_law_told" (spTold K) := by
  obtain ⟨fd, F⟩ := T.f__law_told
  have D_len := d_len (P := P) (w := w) (base := base) T
  have D_demands := d_demands (P := P) (w := w) (base := base) T
  refine dnN T.g__law_told F (fun _ _ _ _ _ _ us hl => match us, hl with | [_, _], _ => rfl) sc__law_told (fun vs H Q E h => ?_) (fun cdv A outer s H vs Q E hr h => ?_)
  · obtain ⟨x, dx, lw, lt, kd, st, q, r, ws, ds, rfl, _⟩ := h
    rfl
  · obtain ⟨x, dx, lw, lt, kd, st, q, r, ws, ds, rfl, W, hl1, hl2, hQ⟩ := h
    refine ⟨_, PSs.nox (pss_cons (ps_set (i := 2) sc__law_told.nd rfl (.inl rfl) (pe_methE0 (pv 0) T.o_Web.cl T.h_Web_demands D_demands (hr.mono (by decide)) px0))
      (pss_cons (ps_if (PW.pt (pw_or (pt_not (pt_val (pe_callB call_isi (by rfl) T.z_isinstance (by decide +kernel) (pa_cons (pv 2) (pa_cons (pe_bltn (v := .ty "list") (by rfl) T.z_list (by decide +kernel) rfl) pa_nil))))) (pw_or (pt_cmpR (op_neD hr.units) (pv 2) (pe_ix ix_list (pv 1) pe_int (fun _ _ => rfl)) (nomark _)) (pw_or1 (pt_cmpR op_ne (pe_callB (call_lenO T.h_Web___len__ D_len hr pass0) (by rfl) T.z_len (by decide +kernel) (pa_cons (pv 0) pa_nil)) (pe_callB call_len_seq (by rfl) T.z_len (by decide +kernel) (pa_cons (pe_ix ix_list (pv 1) pe_int (fun _ _ => rfl)) pa_nil)) (nomark _)))))) (pss_one (ps_ret pe_bl)) pss_nil)
      (pss_cons (ps_expr (pe_bm PySem.F.plainAttrs_list PySem.F.slot_list_append PySem.F.type_list_append mt_append (pv 2) (pa_cons (pe_tup (pa_cons pe_str (pa_cons pe_int (pa_cons pe_int pa_nil)))) pa_nil)))
      (pss_one (ps_ret (pe_cmpR (op_eqD hr.units) (pe_methE0 (pv 0) T.o_Web.cl T.h_Web_demands D_demands (hr.mono (by decide)) px0) (pe_ix ix_list (pv 1) pe_int (fun _ _ => rfl)) (nomark _))))))), ?_⟩
    refine ⟨_, rfl, _, _, _, rfl, W.wb.hx, webF_no (by decide) (by decide) (by decide), ?_⟩
    refine ⟨x, dx, lw, lt, kd, ws, ds, rfl, W.wb, fun p H1 us np s1 e1 a1 => ?_⟩
    have W1 := W.same s1
    obtain ⟨v2, e2, a2⟩ := W1.hr
    obtain ⟨v3, e3, a3⟩ := W1.hq
    have dl : Dp K H1 (.ref p) (.list ds) := .lst (SqL.of e1) a1
    have dr : Dp K H1 (.ref r) (.list ds) := .lst (SqL.of e2) a2
    refine ⟨_, rfl, _, _, _, _, _, rfl, .ty _, Dp.ty dl, kit_d K .lst (.list ds), _, rfl, iteF ?_⟩
    refine ⟨_, rfl, _, rfl, _, _, 1, _, rfl, rfl, SqL.of W1.hs, atI_nat (j := 1) rfl, _, _, dl, dr, W1.wb.pd.shaped, W1.wb.pd.shaped, _, rfl, ?_⟩
    rw [W1.wb.pd.refl]
    refine iteF ?_
    refine ⟨_, rfl, _, _, _, rfl, W1.wb.hx, x, dx, lw, lt, kd, ws, ds, rfl, W1.wb, _, rfl, ⟨by omega, by omega⟩, ?_⟩
    refine ⟨_, rfl, _, _, 0, _, rfl, rfl, SqL.of W1.hs, atI_nat (j := 0) rfl, _, _, rfl, .inl (SqL.of e3), rfl, _, rfl, ?_⟩
    rw [DpAll.length a3]
    refine if_neg_of (by show (!decide (V.int (ws.length : Nat) = V.int (ws.length : Nat))) = false; rw [decide_eq_true rfl]; rfl) ?_
    refine ⟨_, rfl, .inl ⟨rfl, _, SqL.of e1⟩, (by show 3 ≤ sizeLine; decide), fun t nt => ?_⟩
    generalize eH2 : upd H1 t _ = H2
    have s2 : Same H1 H2 := eH2 ▸ same_upd nt
    have e2t : H2 t = some _ := eH2 ▸ upd_same
    refine ⟨p, _, _, rfl, rfl, s2 _ _ e1, (by rw [DpAll.length a1]; exact Nat.lt_trans hl2 (by decide)), ?_⟩
    generalize eH3 : upd H2 p _ = H3
    have m3 : Md [p] H2 H3 := eH3 ▸ Md.upd (s2 _ _ e1) rfl (by simp)
    have s03 : Same H H3 := (Md.new (S := []) (m3) (s1.trans s2) np).same
    have W3 := W.same s03
    obtain ⟨v2', e2', a2'⟩ := W3.hr
    refine ⟨_, rfl, _, _, _, rfl, W3.wb.hx, webF_no (by decide) (by decide) (by decide), ?_⟩
    refine ⟨x, dx, lw, lt, kd, ws, ds, rfl, W3.wb, fun p4 H4 us4 np4 s4 e4 a4 => ?_⟩
    have W4 := W3.same s4
    refine ⟨_, rfl, _, _, 1, _, rfl, rfl, SqL.of W4.hs, atI_nat (j := 1) rfl, _, _, .lst (SqL.of e4) a4, .lst (SqL.of (s4 _ _ e2')) (DpAll.same s4 a2'), W.wb.pd.shaped, W.wb.pd.shaped, ?_⟩
    rw [W.wb.pd.refl]
    exact hQ H4 (s03.trans s4)
end
end K06
namespace K06
open PySem PySem.Spec PyProof.Rows L2 He TL EL
theorem u65 {k : Nat} {A : Around} (r : Room k A) : A.units + 65 < cLine := by have := r.un; omega
theorem idx_any {ws : List PyData} {a b : Int} : (ws.any fun z => PyData.eqv z (.tuple [.int a, .int b])) = (idx ws a b).isSome := by
  unfold idx
  rw [List.findIdx?_isSome]
theorem idx_at {ws : List PyData} {a b : Int} {i : Nat} (h : idx ws a b = some i) : ∃ z, ws[i]? = some z ∧ PyData.eqv z (.tuple [.int a, .int b]) = true ∧ ∀ (m : Nat) (z' : PyData), m < i → ws[m]? = some z' → PyData.eqv z' (.tuple [.int a, .int b]) = false := by
  unfold idx at h
  obtain ⟨hi, h1, h2⟩ := List.findIdx?_eq_some_iff_getElem.mp h
  refine ⟨ws[i], List.getElem?_eq_getElem hi, h1, fun m z' hm e => ?_⟩
  have hml : m < ws.length := Nat.lt_trans hm hi
  have e2 : ws[m] = z' := Option.some.inj ((List.getElem?_eq_getElem hml).symm.trans e)
  rw [← e2]
  simpa using h2 m hm
section
variable {P : Program} {w : World} {K : PySem.W.Frag} {mg : Str → Option Value} {base : Heap}
/-! _law_fixed -/
def spFix (K : PySem.W.Frag) : Sp := fun vs H Q _ => ∃ x dx lw lt kd st q r ws ds t a b, vs = [.ref x, .ref st, .ref t] ∧ Pr K H x dx lw lt kd st q r ws ds ∧ H t = some (.tup [.int a, .int b]) ∧ isValD (.tuple [.int a, .int b]) = true ∧ ws.length < 900 ∧
  ∀ H' ws', Md [x, lw, lt, kd, st, q, r] H H' → Pr K H' x dx lw lt kd st q r ws' ds → ws'.length ≤ ws.length + 1 → Q (.bl true) H'
theorem d_fix (T : Txt K mg) : Dn P w K mg base CX0 4 "_law_fixed" (spFix K) := by
  obtain ⟨fd, F⟩ := T.f__law_fixed
  have D_fixed := d_fixed (P := P) (w := w) (base := base) T
  refine dnN T.g__law_fixed F (fun _ _ _ _ _ _ us hl => match us, hl with | [_, _, _], _ => rfl) sc__law_fixed (fun vs H Q E h => ?_) (fun cdv A outer s H vs Q E hr h => ?_)
  · obtain ⟨x, dx, lw, lt, kd, st, q, r, ws, ds, t, a, b, rfl, _⟩ := h
    rfl
  · obtain ⟨x, dx, lw, lt, kd, st, q, r, ws, ds, t, a, b, rfl, W, ht, hv, hl, hQ⟩ := h
    refine ⟨_, PSs.nox (pss_cons (ps_set (i := 3) sc__law_fixed.nd rfl (.inl rfl) (pe_methE (pv 0) T.o_Web.cl T.h_Web_fixed D_fixed hr pxq (pa_cons (pv 2) pa_nil)))
      (pss_cons (ps_set (i := 4) sc__law_fixed.nd rfl (.inl rfl) (pe_callB call_len_seq (by rfl) T.z_len (by decide +kernel) (pa_cons (pe_ix ix_list (pv 1) pe_int (fun _ _ => rfl)) pa_nil)))
      (pss_cons (ps_if (pt_cmpR (op_inD (u65 hr)) (pv 2) (pe_ix ix_list (pv 1) pe_int (fun _ _ => rfl)) (by rfl)) (pss_one (ps_set (i := 4) sc__law_fixed.nd rfl (.inl rfl) (pe_bm PySem.F.plainAttrs_list PySem.F.slot_list_index PySem.F.type_list_index (mt_indexD (u65 hr)) (pe_ix ix_list (pv 1) pe_int (fun _ _ => rfl)) (pa_cons (pv 2) pa_nil)))) (pss_one (ps_expr (pe_bm PySem.F.plainAttrs_list PySem.F.slot_list_append PySem.F.type_list_append mt_append (pe_ix ix_list (pv 1) pe_int (fun _ _ => rfl)) (pa_cons (pv 2) pa_nil)))))
      (pss_one (ps_ret (pe_and (pe_callB call_isi (by rfl) T.z_isinstance (by decide +kernel) (pa_cons (pv 3) (pa_cons (pe_bltn (v := .ty "int") (by rfl) T.z_int (by decide +kernel) rfl) pa_nil))) (pe_and (pe_not (pe_callB call_isi (by rfl) T.z_isinstance (by decide +kernel) (pa_cons (pv 3) (pa_cons (pe_bltn (v := .ty "bool") (by rfl) T.z_bool (by decide +kernel) rfl) pa_nil)))) (pe_one (pe_cmpR op_eq (pv 3) (pv 4) (nomark _)))))))))), ?_⟩
    have nd := W.nd
    simp only [List.nodup_cons, List.mem_cons, List.not_mem_nil, not_or, or_false] at nd
    obtain ⟨⟨x1, x2, x3, x4, x5, x6⟩, ⟨w1, w2, w3, w4, w5⟩, ⟨t1, t2, t3, t4⟩, ⟨k1, k2, k3⟩, ⟨s1, s2⟩, q1, _⟩ := nd
    have pdd : Pd (.tuple [.int a, .int b]) := ⟨rfl, rfl, by show 1 ≤ 16; decide⟩
    have dt : Dp K H (.ref t) (.tuple [.int a, .int b]) := .tup (SqT.of ht) (.cons (.int _) (.cons (.int _) .nil))
    refine ⟨_, rfl, _, _, _, rfl, W.wb.hx, webF_no (by decide) (by decide) (by decide), _, rfl, ?_⟩
    refine ⟨x, dx, lw, lt, kd, ws, ds, .ref t, rfl, W.wb, .inr ⟨t, a, b, rfl, ht, hv, by omega, Ne.symm w1, fun i hi => ?_, fun hi H1 m1 W1 => ?_⟩⟩
    · obtain ⟨v3, e3, a3⟩ := W.hq
      have dq : Dp K H (.ref q) (.list ws) := .lst (SqL.of e3) a3
      refine ⟨_, rfl, _, _, 0, _, rfl, rfl, SqL.of W.hs, atI_nat (j := 0) rfl, _, _, rfl, .inl (SqL.of e3), ?_⟩
      refine ⟨_, rfl, _, rfl, _, _, 0, _, rfl, rfl, SqL.of W.hs, atI_nat (j := 0) rfl, _, _, dt, dq, pdd.shaped, W.wb.pw.shaped, _, rfl, ?_⟩
      rw [idx_any, hi]
      refine iteT ?_
      obtain ⟨z, hz, hz1, hz2⟩ := idx_at hi
      refine ⟨_, rfl, _, _, 0, _, rfl, rfl, SqL.of W.hs, atI_nat (j := 0) rfl, .inl ⟨rfl, _, SqL.of e3⟩, _, rfl, q, _, _, ws, i, z, rfl, rfl, dq, dt, W.wb.pw.shaped, pdd.shaped, hz, hz1, hz2, ?_⟩
      refine ⟨_, rfl, _, _, _, _, _, rfl, .ty _, Dp.ty (.int _), kit_d K .int (.int _), _, rfl, iteT ?_⟩
      refine ⟨_, rfl, _, _, _, _, _, rfl, .ty _, Dp.ty (.int _), kit_d K .bl (.int _), _, rfl, _, rfl, iteT ?_⟩
      refine ⟨_, rfl, _, rfl, rfl, ?_⟩
      rw [decide_eq_true rfl]
      exact hQ H ws (.refl _ _) W (by omega)
    · have hs1 : H1 st = some (.lst [.ref q, .ref r]) := m1.out _ _ W.hs (by simp; exact ⟨Ne.symm w3, Ne.symm k1⟩)
      obtain ⟨v3, e3, a3⟩ := W.hq
      obtain ⟨v4, e4, a4⟩ := W.hr
      have e3' : H1 q = some (.lst v3) := m1.out _ _ e3 (by simp; exact ⟨Ne.symm w4, Ne.symm k2⟩)
      have e4' : H1 r = some (.lst v4) := m1.out _ _ e4 (by simp; exact ⟨Ne.symm w5, Ne.symm k3⟩)
      have a3' := m1.dpAll W.wb.pw.nl a3
      have a4' := m1.dpAll W.wb.pd.nl a4
      have dq : Dp K H1 (.ref q) (.list ws) := .lst (SqL.of e3') a3'
      have dt1 := m1.dp rfl dt
      refine ⟨_, rfl, _, _, 0, _, rfl, rfl, SqL.of hs1, atI_nat (j := 0) rfl, _, _, rfl, .inl (SqL.of e3'), ?_⟩
      refine ⟨_, rfl, _, rfl, _, _, 0, _, rfl, rfl, SqL.of hs1, atI_nat (j := 0) rfl, _, _, dt1, dq, pdd.shaped, W.wb.pw.shaped, _, rfl, ?_⟩
      rw [idx_any, hi]
      refine iteF ?_
      refine ⟨_, rfl, _, _, 0, _, rfl, rfl, SqL.of hs1, atI_nat (j := 0) rfl, .inl ⟨rfl, _, SqL.of e3'⟩, _, rfl, q, _, _, rfl, rfl, e3', (by rw [DpAll.length a3]; exact Nat.lt_trans hl (by decide)), ?_⟩
      generalize eH2 : upd H1 q _ = H2
      have m2 : Md [q] H1 H2 := eH2 ▸ Md.upd e3' rfl (by simp)
      have q2' : H2 q = some (.lst (v3 ++ [.ref t])) := eH2 ▸ upd_same
      refine ⟨_, rfl, _, _, _, _, _, rfl, .ty _, Dp.ty (.int _), kit_d K .int (.int _), _, rfl, iteT ?_⟩
      refine ⟨_, rfl, _, _, _, _, _, rfl, .ty _, Dp.ty (.int _), kit_d K .bl (.int _), _, rfl, _, rfl, iteT ?_⟩
      refine ⟨_, rfl, _, rfl, rfl, ?_⟩
      rw [DpAll.length a3, decide_eq_true rfl]
      refine hQ H2 (ws ++ [.tuple [.int a, .int b]]) ((m1.mono (by simp)).trans (m2.mono (by simp))) ⟨W1.md m2 (by simp [x5]) (by simp [w4]) (by simp [t3]) (by simp [k2]), m2.out _ _ hs1 (by simp [s1]), ⟨_, q2', DpAll.snoc (m2.dp rfl dt1) (m2.dpAll W.wb.pw.nl a3')⟩, ⟨v4, m2.out _ _ e4' (by simp; exact Ne.symm q1), m2.dpAll W.wb.pd.nl a4'⟩, W.nd⟩ (by simp)
end
end K06
namespace K06
open PySem PySem.Spec PyProof.Rows L2 He TL EL
section
variable {P : Program} {w : World} {K : PySem.W.Frag} {mg : Str → Option Value} {base : Heap}
/-! _law_odd -/
def spOdd (K : PySem.W.Frag) : Sp := fun vs H Q _ => ∃ x dx lw lt kd ws ds, vs = [.ref x] ∧ Wb K H x dx lw lt kd ws ds ∧ ∀ H', Same H H' → Q (.bl true) H'
theorem d_odd (T : Txt K mg) : Dn P w K mg base CX0 4 "_law_odd" (spOdd K) := by
  obtain ⟨fd, F⟩ := T.f__law_odd
  have D_fixed := d_fixed (P := P) (w := w) (base := base) T
  refine dnN T.g__law_odd F (fun _ _ _ _ _ _ us hl => match us, hl with | [_], _ => rfl) sc__law_odd (fun vs H Q E h => ?_) (fun cdv A outer s H vs Q E hr h => ?_)
  · obtain ⟨x, dx, lw, lt, kd, ws, ds, rfl, _⟩ := h
    rfl
  · obtain ⟨x, dx, lw, lt, kd, ws, ds, rfl, W, hQ⟩ := h
    refine ⟨_, PSs.nox (pss_cons (ps_set (i := 1) sc__law_odd.nd rfl (.inl rfl) pe_int)
      (pss_cons (ps_for PassesOwn.never rfl (pi_list (pe_lst (pa_cons pe_non (pa_cons pe_int (pa_cons (pe_tup (pa_cons pe_int (pa_cons pe_int pa_nil))) (pa_cons (pe_tup (pa_cons pe_int (pa_cons pe_int pa_nil))) (pa_cons (pe_lst (pa_cons pe_int (pa_cons pe_int pa_nil))) (pa_cons pe_str pa_nil)))))))) (pg_name (i := 2) sc__law_odd.nd rfl (.inl rfl))
      (pss_one (ps_tryO (by rfl) (by rfl) ⟨rfl, by decide, .inl T.x_NoValue.g⟩ takes0 (fun W pn xe tk po => (pss_one (ps_expr (pe_methE (pv 0) T.o_Web.cl T.h_Web_fixed D_fixed hr (pxx tk) (pa_cons (pv 2) pa_nil)))))
      (fun a oe cls d pn hz hf => (pss_one (ps_set (i := 1) sc__law_odd.nd rfl (.inl rfl) (pe_op op_add (pv 1) pe_int)))))))
      (pss_one (ps_ret (pe_cmpR op_eq (pv 1) pe_int (nomark _)))))), ?_⟩
    refine ⟨(by show 2 ≤ sizeLine; decide), fun t1 n1 => ?_⟩
    generalize eH1 : upd H t1 _ = H1
    have s1 : Same H H1 := eH1 ▸ same_upd n1
    have e1 : H1 t1 = some _ := eH1 ▸ upd_same
    refine ⟨(by show 2 ≤ sizeLine; decide), fun t2 n2 => ?_⟩
    generalize eH2 : upd H1 t2 _ = H2
    have s2 : Same H1 H2 := eH2 ▸ same_upd n2
    have e2 : H2 t2 = some _ := eH2 ▸ upd_same
    refine ⟨(by show 2 ≤ sizeLine; decide), fun t3 n3 => ?_⟩
    generalize eH3 : upd H2 t3 _ = H3
    have s3 : Same H2 H3 := eH3 ▸ same_upd n3
    have e3 : H3 t3 = some _ := eH3 ▸ upd_same
    refine ⟨(by show 6 ≤ sizeLine; decide), fun t4 n4 => ?_⟩
    generalize eH4 : upd H3 t4 _ = H4
    have s4 : Same H3 H4 := eH4 ▸ same_upd n4
    have e4 : H4 t4 = some _ := eH4 ▸ upd_same
    have s04 : Same H H4 := s1.trans (s2.trans (s3.trans s4))
    have s24 : Same H2 H4 := s3.trans s4
    have s14 : Same H1 H4 := s2.trans s24
    have W4 := W.same s04
    have d1 : Dp K H4 (.ref t1) (.tuple [.int 2, .int 4]) := .tup (SqT.of (s14 _ _ e1)) (.cons (.int _) (.cons (.int _) .nil))
    have d2 : Dp K H4 (.ref t2) (.tuple [.int 1, .int 0]) := .tup (SqT.of (s24 _ _ e2)) (.cons (.int _) (.cons (.int _) .nil))
    have d3 : Dp K H4 (.ref t3) (.list [.int 1, .int 2]) := .lst (SqL.of (s4 _ _ e3)) (.cons (.int _) (.cons (.int _) .nil))
    have dd : DpAll K H4 [.non, .int 3, .ref t1, .ref t2, .ref t3, .str "1/2"] [.none, .int 3, .tuple [.int 2, .int 4], .tuple [.int 1, .int 0], .list [.int 1, .int 2], .str "1/2"] := .cons .non (.cons (.int _) (.cons d1 (.cons d2 (.cons d3 (.cons (.str _) .nil)))))
    have bad : ∀ d ∈ [PyData.none, .int 3, .tuple [.int 2, .int 4], .tuple [.int 1, .int 0], .list [.int 1, .int 2], .str "1/2"], isValD d = false := by
      intro d hd
      simp only [List.mem_cons, List.not_mem_nil, or_false] at hd
      rcases hd with rfl | rfl | rfl | rfl | rfl | rfl <;> decide +kernel
    refine ⟨t4, rfl, ⟨_, SqL.of e4⟩, for_list (K := K) (a := t4) (xs := [.non, .int 3, .ref t1, .ref t2, .ref t3, .str "1/2"]) (fun i σ H' => H4 = H' ∧ ∃ (n : Int) (o : Option V), n = (i : Nat) ∧ σ = [some (.ref x), some (.int n), o]) ⟨rfl, 0, none, rfl, rfl⟩ (fun i σ H' _ h => by rw [← h.1]; exact SqL.of e4) ?_ ?_⟩
    · rintro i xv σ H' hg ⟨rfl, n, o, en, rfl⟩
      obtain ⟨d, hd, hdp⟩ := DpAll.get dd hg
      refine ⟨_, rfl, _, _, _, rfl, W4.hx, webF_no (by decide) (by decide) (by decide), _, rfl, ?_⟩
      refine ⟨x, dx, lw, lt, kd, ws, ds, xv, rfl, W4, .inl ⟨.d d, hdp, bad d (List.mem_of_getElem? hd), ?_⟩⟩
      refine ⟨true, T.e_NoValue_NoValue, fun _ a _ => ?_, fun z => by cases z⟩
      exact ⟨_, rfl, _, _, rfl, rfl, rfl, _, _, (by rw [en]; rfl), rfl⟩
    · rintro σ H' ⟨rfl, n, o, en, rfl⟩
      subst en
      exact ⟨_, rfl, rfl, hQ H4 s04⟩
/-! _law_deed -/
def AN (A : List Addr) (p l : Addr) : Prop := p ∉ A ∧ l ∉ A
def spDeed (K : PySem.W.Frag) : Sp := fun vs H Q _ => ∃ p l x dx lw lt kd st q r ws ds, vs = [.ref p, .ref x, .ref st] ∧ Src H p l ∧ Pr K H x dx lw lt kd st q r ws ds ∧ p ∉ [x, lw, lt, kd, st, q, r] ∧ l ∉ [x, lw, lt, kd, st, q, r] ∧ ws.length < 900 ∧ ds.length < 900 ∧
  ∀ H' ws' ds', Md (p :: [x, lw, lt, kd, st, q, r]) H H' → Src H' p l → Pr K H' x dx lw lt kd st q r ws' ds' → ws'.length ≤ ws.length + 1 → ds'.length ≤ ds.length + 1 → Q (.bl true) H'
theorem _root_.EL.Src.md {S : List Addr} {H H' : Hp} {p l : Addr} (h : Src H p l) (m : Md S H H') (h1 : p ∉ S) (h2 : l ∉ S) : Src H' p l := by
  obtain ⟨ns, i, c, r, k1, k2, h3⟩ := h
  exact ⟨ns, i, c, r, m.out _ _ k1 h1, m.out _ _ k2 h2, h3⟩
theorem due_done {m : Nat} {d0 d1 d2 : PyData} : PyData.eqv (.list (dueD m d0 d1 d2)) (.list [.str "done"]) = (signOk d0 && numOk m d1 && numOk m d2) := by
  have e1 : ∀ r, PyData.eqv (.list (.str "condition" :: r)) (.list [.str "done"]) = false := fun r => by
    show (PyData.eqv (.str "condition") (.str "done") && PyData.eqvAll r []) = false
    rw [show PyData.eqv (.str "condition") (.str "done") = false by decide +kernel] <;> rfl
  have e2 : ∀ r, PyData.eqv (.list (.str "point" :: r)) (.list [.str "done"]) = false := fun r => by
    show (PyData.eqv (.str "point") (.str "done") && PyData.eqvAll r []) = false
    rw [show PyData.eqv (.str "point") (.str "done") = false by decide +kernel] <;> rfl
  cases h0 : signOk d0 with
  | false => rw [due0 h0, e1]; rfl
  | true =>
    cases h1 : numOk m d1 with
    | false => rw [due1 h0 h1, e2]; rfl
    | true =>
      cases h2 : numOk m d2 with
      | false => rw [due2 h0 h1 h2, e2]; rfl
      | true => rw [due3 h0 h1 h2]; decide +kernel
theorem pw20 : ((10 : Int) ^ (20 : Int).toNat) = 100000000000000000000 := by decide +kernel
theorem d_deed (hP : PF P "/claim/cut.py") (T : Txt K mg) : Dn P w K mg base CX0 5 "_law_deed" (spDeed K) := by
  obtain ⟨fd, F⟩ := T.f__law_deed
  have D__law_draw := d_draw (P := P) (w := w) (base := base) T
  have D__law_number := d_number (P := P) (w := w) (base := base) T
  have D__law_due := d_due (P := P) (w := w) (base := base) T
  have D__law_fixed := d_fix (P := P) (w := w) (base := base) T
  have D__law_demanded := d_demanded (w := w) (base := base) hP T
  have D_point := d_point (P := P) (w := w) (base := base) T
  refine dnN T.g__law_deed F (fun _ _ _ _ _ _ us hl => match us, hl with | [_, _, _], _ => rfl) sc__law_deed (fun vs H Q E h => ?_) (fun cdv A outer s H vs Q E hr h => ?_)
  · obtain ⟨p, l, x, dx, lw, lt, kd, st, q, r, ws, ds, rfl, _⟩ := h
    rfl
  · obtain ⟨p, l, x, dx, lw, lt, kd, st, q, r, ws, ds, rfl, S, W, np, nl, hl1, hl2, hQ⟩ := h
    refine ⟨_, PSs.nox (pss_cons (ps_set (i := 3) sc__law_deed.nd rfl (.inl rfl) (cl D__law_draw (hr.mono (by decide)) (pa_cons (pv 0) (pa_cons pe_int pa_nil))))
      (pss_cons (ps_if (pt_cmpR op_eq (pv 3) pe_int (nomark _)) (pss_cons (ps_expr (pe_bm PySem.F.plainAttrs_list PySem.F.slot_list_append PySem.F.type_list_append mt_append (pe_ix ix_list (pv 2) pe_int (fun _ _ => rfl)) (pa_cons pe_non pa_nil)))
      (pss_cons (ps_set (i := 4) sc__law_deed.nd rfl (.inl rfl) (pe_methE0 (pv 1) T.o_Web.cl T.h_Web_point D_point (hr.mono (by decide)) px0))
      (pss_one (ps_ret (pe_and (pe_callB call_isi (by rfl) T.z_isinstance (by decide +kernel) (pa_cons (pv 4) (pa_cons (pe_bltn (v := .ty "int") (by rfl) T.z_int (by decide +kernel) rfl) pa_nil))) (pe_and (pe_not (pe_callB call_isi (by rfl) T.z_isinstance (by decide +kernel) (pa_cons (pv 4) (pa_cons (pe_bltn (v := .ty "bool") (by rfl) T.z_bool (by decide +kernel) rfl) pa_nil)))) (pe_one (pe_cmpR op_eq (pv 4) (pe_op op_sub (pe_callB call_len_seq (by rfl) T.z_len (by decide +kernel) (pa_cons (pe_ix ix_list (pv 2) pe_int (fun _ _ => rfl)) pa_nil)) pe_int) (nomark _))))))))) pss_nil)
      (pss_cons (ps_if (pt_cmpR op_eq (pv 3) pe_int (nomark _)) (pss_cons (ps_set (i := 5) sc__law_deed.nd rfl (.inl rfl) (pe_ix ix_list (pe_lst (pa_cons (pe_tup (pa_cons pe_int (pa_cons pe_int pa_nil))) (pa_cons (pe_tup (pa_cons pe_int (pa_cons pe_int pa_nil))) (pa_cons (pe_tup (pa_cons (pe_un un_neg pe_int) (pa_cons pe_int pa_nil))) (pa_cons (pe_tup (pa_cons pe_int (pa_cons pe_int pa_nil))) (pa_cons (pe_tup (pa_cons (pe_op op_pow pe_int pe_int) (pa_cons pe_int pa_nil))) (pa_cons (pe_tup (pa_cons pe_int (pa_cons (pe_op op_pow pe_int pe_int) pa_nil))) (pa_cons (pe_tup (pa_cons (pe_un un_neg pe_int) (pa_cons pe_int pa_nil))) pa_nil)))))))) (cl D__law_draw (hr.mono (by decide)) (pa_cons (pv 0) (pa_cons pe_int pa_nil))) (fun _ _ => rfl)))
      (pss_one (ps_ret (cl D__law_fixed (hr.mono (by decide)) (pa_cons (pv 1) (pa_cons (pv 2) (pa_cons (pv 5) pa_nil))))))) pss_nil)
      (pss_cons (ps_set (i := 6) sc__law_deed.nd rfl (.inl rfl) (pe_ix ix_list (pe_lst (pa_cons pe_str (pa_cons pe_str (pa_cons pe_str (pa_cons pe_str (pa_cons pe_str (pa_cons pe_str (pa_cons pe_str (pa_cons pe_str (pa_cons pe_str (pa_cons pe_str (pa_cons pe_str (pa_cons pe_non pa_nil))))))))))))) (cl D__law_draw (hr.mono (by decide)) (pa_cons (pv 0) (pa_cons pe_int pa_nil))) (fun _ _ => rfl)))
      (pss_cons (ps_set (i := 7) sc__law_deed.nd rfl (.inl rfl) (cl D__law_number (hr.mono (by decide)) (pa_cons (pv 0) (pa_cons (pe_callB call_len_seq (by rfl) T.z_len (by decide +kernel) (pa_cons (pe_ix ix_list (pv 2) pe_int (fun _ _ => rfl)) pa_nil)) pa_nil))))
      (pss_cons (ps_set (i := 8) sc__law_deed.nd rfl (.inl rfl) (cl D__law_number (hr.mono (by decide)) (pa_cons (pv 0) (pa_cons (pe_callB call_len_seq (by rfl) T.z_len (by decide +kernel) (pa_cons (pe_ix ix_list (pv 2) pe_int (fun _ _ => rfl)) pa_nil)) pa_nil))))
      (pss_cons (ps_set (i := 9) sc__law_deed.nd rfl (.inl rfl) (cl D__law_due (hr.mono (by decide)) (pa_cons (pv 6) (pa_cons (pv 7) (pa_cons (pv 8) (pa_cons (pe_callB call_len_seq (by rfl) T.z_len (by decide +kernel) (pa_cons (pe_ix ix_list (pv 2) pe_int (fun _ _ => rfl)) pa_nil)) pa_nil))))))
      (pss_mid (ps_if (pt_cmpR (op_eqD hr.units) (pv 9) (pe_lst (pa_cons pe_str pa_nil)) (nomark _)) (pss_one (ps_expr (pe_bm PySem.F.plainAttrs_list PySem.F.slot_list_append PySem.F.type_list_append mt_append (pe_ix ix_list (pv 2) pe_int (fun _ _ => rfl)) (pa_cons (pe_tup (pa_cons (pv 6) (pa_cons (pv 7) (pa_cons (pv 8) pa_nil)))) pa_nil)))) pss_nil)
      (pss_one (ps_ret (pe_cmpR (op_eqD hr.units) (cl D__law_demanded (hr.mono (by decide)) (pa_cons (pv 1) (pa_cons (pv 6) (pa_cons (pv 7) (pa_cons (pv 8) pa_nil))))) (pv 9) (nomark _)))))))))))), ?_⟩
    have nd := W.nd
    simp only [List.nodup_cons, List.mem_cons, List.not_mem_nil, not_or, or_false] at nd
    obtain ⟨⟨x1, x2, x3, x4, x5, x6⟩, ⟨w1, w2, w3, w4, w5⟩, ⟨t1, t2, t3, t4⟩, ⟨k1, k2, k3⟩, ⟨s1, s2⟩, q1, _⟩ := nd
    obtain ⟨hx, hp⟩ := S.lst
    refine ⟨_, rfl, p, l, 4, rfl, by decide, by decide, S, fun n H1 n0 n1 S1 b1 => ?_⟩
    have m1 : Md [p] H H1 := b1.md hp rfl
    have W1 := W.md m1 (fun b hb hb' => by cases List.mem_singleton.mp hb'; exact np hb)
    have m1' : Md (p :: [x, lw, lt, kd, st, q, r]) H H1 := m1.mono (by simp)
    refine ⟨_, rfl, rfl, _, rfl, ie (fun c => ?_) (fun c => ?_)⟩
    · -- a point
      obtain ⟨v3, e3, a3⟩ := W1.hq
      refine ⟨_, rfl, _, _, 0, _, rfl, rfl, SqL.of W1.hs, atI_nat (j := 0) rfl, .inl ⟨rfl, _, SqL.of e3⟩, q, _, _, rfl, rfl, e3, (by rw [DpAll.length a3]; exact Nat.lt_trans hl1 (by decide)), ?_⟩
      generalize eH2 : upd H1 q _ = H2
      have m2 : Md [q] H1 H2 := eH2 ▸ Md.upd e3 rfl (by simp)
      have q2' : H2 q = some (.lst (v3 ++ [.non])) := eH2 ▸ upd_same
      have wb2 := W1.wb.md m2 (by simp [x5]) (by simp [w4]) (by simp [t3]) (by simp [k2])
      refine ⟨_, rfl, _, _, _, rfl, wb2.hx, webF_no (by decide) (by decide) (by decide), ?_⟩
      refine ⟨x, dx, lw, lt, kd, ws, ds, rfl, wb2, by omega, Ne.symm w1, fun H3 m3 W3 => ?_⟩
      have hs3 : H3 st = some (.lst [.ref q, .ref r]) := m3.out _ _ (m2.out _ _ W1.hs (by simp [s1])) (by simp; exact Ne.symm w3)
      have q3 : H3 q = some (.lst (v3 ++ [.non])) := m3.out _ _ q2' (by simp; exact Ne.symm w4)
      refine ⟨_, rfl, _, _, _, _, _, rfl, .ty _, Dp.ty (.int _), kit_d K .int (.int _), _, rfl, iteT ?_⟩
      refine ⟨_, rfl, _, _, _, _, _, rfl, .ty _, Dp.ty (.int _), kit_d K .bl (.int _), _, rfl, _, rfl, iteT ?_⟩
      refine ⟨_, rfl, _, rfl, _, _, 0, _, rfl, rfl, SqL.of hs3, atI_nat (j := 0) rfl, _, _, rfl, .inl (SqL.of q3), _, _, rfl, rfl, rfl, ?_⟩
      have e : (((v3 ++ [V.non]).length : Nat) : Int) - 1 = (ws.length : Nat) := by rw [List.length_append, DpAll.length a3]; simp
      show Q (.bl (decide (V.int (ws.length : Nat) = V.int ((((v3 ++ [V.non]).length : Nat) : Int) - 1)))) H3
      rw [e, decide_eq_true rfl]
      obtain ⟨v4, e4, a4⟩ := W1.hr
      have m23 : Md (p :: [x, lw, lt, kd, st, q, r]) H1 H3 := (m2.mono (by simp)).trans (m3.mono (by simp))
      refine hQ H3 (ws ++ [.none]) ds (m1'.trans m23) ((S1.md m2 (by simp; exact fun z => np (by rw [z]; simp)) (by simp; exact fun z => nl (by rw [z]; simp))).md m3 (by simp; exact fun z => np (by rw [z]; simp)) (by simp; exact fun z => nl (by rw [z]; simp))) ⟨W3, hs3, ⟨_, q3, DpAll.snoc .non (m23.dpAll W.wb.pw.nl a3)⟩, ⟨v4, m3.out _ _ (m2.out _ _ e4 (by simp; exact Ne.symm q1)) (by simp; exact Ne.symm w5), m23.dpAll W.wb.pd.nl a4⟩, W.nd⟩ (by simp) (by omega)
    · refine ⟨_, rfl, rfl, _, rfl, ie (fun c2 => ?_) (fun c2 => ?_)⟩
      · -- a fixed value
        refine ⟨(by show 2 ≤ sizeLine; decide), fun u1 nu1 => ?_⟩
        generalize eH2 : upd H1 u1 _ = H2
        have sn2 : Same H1 H2 := eH2 ▸ same_upd nu1
        have en2 : H2 u1 = some _ := eH2 ▸ upd_same
        refine ⟨(by show 2 ≤ sizeLine; decide), fun u2 nu2 => ?_⟩
        generalize eH3 : upd H2 u2 _ = H3
        have sn3 : Same H2 H3 := eH3 ▸ same_upd nu2
        have en3 : H3 u2 = some _ := eH3 ▸ upd_same
        refine ⟨_, rfl, (by show 2 ≤ sizeLine; decide), fun u3 nu3 => ?_⟩
        generalize eH4 : upd H3 u3 _ = H4
        have sn4 : Same H3 H4 := eH4 ▸ same_upd nu3
        have en4 : H4 u3 = some _ := eH4 ▸ upd_same
        refine ⟨(by show 2 ≤ sizeLine; decide), fun u4 nu4 => ?_⟩
        generalize eH5 : upd H4 u4 _ = H5
        have sn5 : Same H4 H5 := eH5 ▸ same_upd nu4
        have en5 : H5 u4 = some _ := eH5 ▸ upd_same
        refine ⟨_, _, rfl, rfl, (by show CPow 10 20; exact ⟨by decide, by decide, by decide⟩), (by show 2 ≤ sizeLine; decide), fun u5 nu5 => ?_⟩
        generalize eH6 : upd H5 u5 _ = H6
        have sn6 : Same H5 H6 := eH6 ▸ same_upd nu5
        have en6 : H6 u5 = some _ := eH6 ▸ upd_same
        refine ⟨_, _, rfl, rfl, (by show CPow 10 20; exact ⟨by decide, by decide, by decide⟩), (by show 2 ≤ sizeLine; decide), fun u6 nu6 => ?_⟩
        generalize eH7 : upd H6 u6 _ = H7
        have sn7 : Same H6 H7 := eH7 ▸ same_upd nu6
        have en7 : H7 u6 = some _ := eH7 ▸ upd_same
        refine ⟨_, rfl, (by show 2 ≤ sizeLine; decide), fun u7 nu7 => ?_⟩
        generalize eH8 : upd H7 u7 _ = H8
        have sn8 : Same H7 H8 := eH8 ▸ same_upd nu7
        have en8 : H8 u7 = some _ := eH8 ▸ upd_same
        refine ⟨(by show 7 ≤ sizeLine; decide), fun u nu => ?_⟩
        generalize eH9 : upd H8 u _ = H9
        have sn9 : Same H8 H9 := eH9 ▸ same_upd nu
        have en9 : H9 u = some _ := eH9 ▸ upd_same
        have q9 : Same H8 H9 := sn9
        have q8 : Same H7 H9 := sn8.trans q9
        have q7 : Same H6 H9 := sn7.trans q8
        have q6 : Same H5 H9 := sn6.trans q7
        have q5 : Same H4 H9 := sn5.trans q6
        have q4 : Same H3 H9 := sn4.trans q5
        have q3 : Same H2 H9 := sn3.trans q4
        have s19 : Same H1 H9 := sn2.trans q3
        have S9 := S1.same s19
        have W9 := W1.same s19
        have up : u ≠ p := fun z => by obtain ⟨xs1, hp1⟩ := S1.lst; rw [z, (sn2.trans (sn3.trans (sn4.trans (sn5.trans (sn6.trans (sn7.trans sn8)))))) _ _ hp1] at nu; cases nu
        refine ⟨_, rfl, p, l, 7, rfl, by decide, by decide, S9, fun k HA k0 k1 SA bA => ?_⟩
        obtain ⟨xs9, hp9⟩ := S9.lst
        have mA : Md [p] H9 HA := bA.md hp9 rfl
        obtain ⟨v, hv, ha⟩ := atI_ex (xs := [.ref u1, .ref u2, .ref u3, .ref u4, .ref u5, .ref u6, .ref u7]) k0 k1
        refine ⟨u, _, _, v, rfl, rfl, SqL.of (bA _ _ en9 up), ha, ?_⟩
        have key : ∃ t a b, v = .ref t ∧ HA t = some (.tup [.int a, .int b]) ∧ isValD (.tuple [.int a, .int b]) = true := by
          simp only [List.mem_cons, List.not_mem_nil, or_false] at hv
          rcases hv with rfl | rfl | rfl | rfl | rfl | rfl | rfl
          · exact ⟨u1, _, _, rfl, mA.rig _ _ (q3 _ _ en2) rfl, by decide +kernel⟩
          · exact ⟨u2, _, _, rfl, mA.rig _ _ (q4 _ _ en3) rfl, by decide +kernel⟩
          · exact ⟨u3, _, _, rfl, mA.rig _ _ (q5 _ _ en4) rfl, by decide +kernel⟩
          · exact ⟨u4, _, _, rfl, mA.rig _ _ (q6 _ _ en5) rfl, by decide +kernel⟩
          · exact ⟨u5, _, _, rfl, mA.rig _ _ (q7 _ _ en6) rfl, by decide +kernel⟩
          · exact ⟨u6, _, _, rfl, mA.rig _ _ (q8 _ _ en7) rfl, by decide +kernel⟩
          · exact ⟨u7, _, _, rfl, mA.rig _ _ (q9 _ _ en8) rfl, by decide +kernel⟩
        obtain ⟨t, a, b, rfl, ht, hvd⟩ := key
        have WA := W9.md mA (fun b hb hb' => by cases List.mem_singleton.mp hb'; exact np hb)
        refine ⟨_, rfl, _, rfl, _, rfl, x, dx, lw, lt, kd, st, q, r, ws, ds, t, a, b, rfl, WA, ht, hvd, hl1, fun HB ws' mB WB hlB => ?_⟩
        refine hQ HB ws' ds (m1'.trans ((Md.of s19).trans ((mA.mono (by simp)).trans (mB.mono (by simp))))) (SA.md mB np nl) WB hlB (by omega)
      · -- a demand
        refine ⟨(by show 12 ≤ sizeLine; decide), fun u nu => ?_⟩
        generalize eH2 : upd H1 u _ = H2
        have sn2 : Same H1 H2 := eH2 ▸ same_upd nu
        have en2 : H2 u = some _ := eH2 ▸ upd_same
        have S2 := S1.same sn2
        have W2 := W1.same sn2
        obtain ⟨xs1, hp1⟩ := S1.lst
        have up : u ≠ p := Ne.symm (ne_of_none hp1 nu)
        refine ⟨_, rfl, p, l, 12, rfl, by decide, by decide, S2, fun k H3 k0 k1 S3 b3 => ?_⟩
        have m3 : Md [p] H2 H3 := b3.md (sn2 _ _ hp1) rfl
        have off : ∀ b ∈ [x, lw, lt, kd, st, q, r], b ∉ [p] := fun b hb hb' => by cases List.mem_singleton.mp hb'; exact np hb
        have W3 := W2.md m3 off
        obtain ⟨v0, hv, ha⟩ := atI_ex (xs := [.str "<", .str "<=", .str "=", .str "!=", .str "<", .str "<=", .str "=", .str "!=", .str "==", .str ">", .str "", .non]) k0 k1
        refine ⟨u, _, _, v0, rfl, rfl, SqL.of (b3 _ _ en2 up), ha, ?_⟩
        have key : ∃ d0, StrNo d0 ∧ ∀ Hx, Dp K Hx v0 d0 := by
          simp only [List.mem_cons, List.not_mem_nil, or_false] at hv
          rcases hv with rfl | rfl | rfl | rfl | rfl | rfl | rfl | rfl | rfl | rfl | rfl | rfl
          all_goals first | exact ⟨_, .inl ⟨_, rfl⟩, fun _ => .str _⟩ | exact ⟨_, .inr rfl, fun _ => .non⟩
        obtain ⟨d0, hst, hd0⟩ := key
        obtain ⟨v3, e3, a3⟩ := W3.hq
        refine ⟨_, rfl, _, rfl, _, _, 0, _, rfl, rfl, SqL.of W3.hs, atI_nat (j := 0) rfl, _, _, rfl, .inl (SqL.of e3), ?_⟩
        rw [DpAll.length a3]
        refine ⟨p, l, ws.length, rfl, S3, fun v1 d1 H4 m4 S4 hd1 pd1 => ?_⟩
        have W4 := W3.md m4 off
        obtain ⟨v4, e4, a4⟩ := W4.hq
        refine ⟨_, rfl, _, rfl, _, _, 0, _, rfl, rfl, SqL.of W4.hs, atI_nat (j := 0) rfl, _, _, rfl, .inl (SqL.of e4), ?_⟩
        rw [DpAll.length a4]
        refine ⟨p, l, ws.length, rfl, S4, fun v2 d2 H5 m5 S5 hd2 pd2 => ?_⟩
        have W5 := W4.md m5 off
        have hd1' := m5.dp pd1.nl hd1
        obtain ⟨v5, e5, a5⟩ := W5.hq
        refine ⟨_, rfl, _, rfl, _, rfl, _, rfl, _, _, 0, _, rfl, rfl, SqL.of W5.hs, atI_nat (j := 0) rfl, _, _, rfl, .inl (SqL.of e5), ?_⟩
        rw [DpAll.length a5]
        refine ⟨v0, v1, v2, d0, d1, d2, ws.length, rfl, hst, hd0 _, hd1', hd2, fun pu us H6 npu s6 epu aus => ?_⟩
        have hdu : Dp K H6 (.ref pu) (.list (dueD ws.length d0 d1 d2)) := .lst (SqL.of epu) aus
        have W6 := W5.same s6
        have m56 : Md (p :: [x, lw, lt, kd, st, q, r]) H H6 := m1'.trans ((Md.of sn2).trans ((m3.mono (by simp)).trans ((m4.mono (by simp)).trans ((m5.mono (by simp)).trans (Md.of s6)))))
        have pdD : Pds (dueD ws.length d0 d1 d2) := by
          unfold dueD
          split
          · exact (fun d hd => by simp only [List.mem_cons, List.not_mem_nil, or_false] at hd; rcases hd with rfl | rfl <;> exact ⟨rfl, by decide +kernel, by decide⟩)
          · split
            · exact (fun d hd => by
                simp only [List.mem_cons, List.not_mem_nil, or_false] at hd
                rcases hd with rfl | rfl | rfl
                · exact ⟨rfl, by decide +kernel, by decide⟩
                · exact pd1
                · exact ⟨rfl, by decide +kernel, by decide⟩)
            · split
              · exact (fun d hd => by
                  simp only [List.mem_cons, List.not_mem_nil, or_false] at hd
                  rcases hd with rfl | rfl | rfl
                  · exact ⟨rfl, by decide +kernel, by decide⟩
                  · exact pd2
                  · exact ⟨rfl, by decide +kernel, by decide⟩)
              · exact (fun d hd => by simp only [List.mem_cons, List.not_mem_nil, or_false] at hd; rcases hd with rfl; exact ⟨rfl, by decide +kernel, by decide⟩)
        have nlD := pdD.nl
        have shD := pdD.shaped
        refine ⟨fun σ' H' => σ' = [some (.ref p), some (.ref x), some (.ref st), some (.int n), none, none, some v0, some v1, some v2, some (.ref pu)] ∧ Md (p :: [x, lw, lt, kd, st, q, r]) H H' ∧ Md [r] H6 H' ∧
          ∃ vs, H' r = some (.lst vs) ∧ DpAll K H' vs (if (signOk d0 && numOk ws.length d1 && numOk ws.length d2) = true then ds ++ [.tuple [d0, d1, d2]] else ds), ?_, ?_⟩
        · refine ⟨_, rfl, (by show 1 ≤ sizeLine; decide), fun u2 nu2 => ?_⟩
          generalize eH7 : upd H6 u2 _ = H7
          have s7 : Same H6 H7 := eH7 ▸ same_upd nu2
          have en7 : H7 u2 = some _ := eH7 ▸ upd_same
          have pdone : Pds [.str "done"] := fun d hd => by cases List.mem_singleton.mp hd; exact ⟨rfl, by decide +kernel, by decide⟩
          refine ⟨_, _, Dp.same s7 hdu, .lst (SqL.of en7) (.cons (.str _) .nil), shD, pdone.shaped, _, rfl, ?_⟩
          rw [due_done]
          obtain ⟨v6, e6, a6⟩ := (W6.same s7).hr
          refine ie (fun g => ?_) (fun g => ?_)
          · obtain ⟨g', g2⟩ := Bool.and_eq_true_iff.mp g
            obtain ⟨g0, g1⟩ := Bool.and_eq_true_iff.mp g'
            refine ⟨_, rfl, _, _, 1, _, rfl, rfl, SqL.of (W6.same s7).hs, atI_nat (j := 1) rfl, .inl ⟨rfl, _, SqL.of e6⟩, _, rfl, _, rfl, _, rfl, (by show 3 ≤ sizeLine; decide), fun u3 nu3 => ?_⟩
            generalize eH8 : upd H7 u3 _ = H8
            have s8 : Same H7 H8 := eH8 ▸ same_upd nu3
            have en8 : H8 u3 = some _ := eH8 ▸ upd_same
            refine ⟨r, _, _, rfl, rfl, s8 _ _ e6, (by rw [DpAll.length a6]; exact Nat.lt_trans hl2 (by decide)), ?_⟩
            have s68 := s7.trans s8
            have m9 : Md [r] H8 (upd H8 r (.lst (v6 ++ [.ref u3]))) := Md.upd (s8 _ _ e6) rfl (by simp)
            have m69 : Md [r] H6 (upd H8 r (.lst (v6 ++ [.ref u3]))) := (Md.of s68).trans m9
            refine ⟨rfl, m56.trans (m69.mono (by simp)), m69, _, upd_same, ?_⟩
            rw [if_pos g]
            have pdw := pd_want g0 g1 g2
            have s58 := s6.trans s68
            exact DpAll.snoc (m9.dp pdw.nl (.tup (SqT.of en8) (.cons (hd0 _) (.cons (Dp.same s58 hd1') (.cons (Dp.same s58 hd2) .nil))))) (m9.dpAll W.wb.pd.nl (DpAll.same s8 a6))
          · refine ⟨rfl, m56.trans (Md.of s7), Md.of s7, v6, e6, ?_⟩
            rw [g, if_neg Bool.false_ne_true]
            exact a6
        · rintro σ' H7 ⟨rfl, mH, m7, vs7, e7, a7⟩
          have wb7 := W6.wb.md m7 (by simp [x6]) (by simp [w5]) (by simp [t4]) (by simp [k3])
          have hd1'' := m7.dp pd1.nl (Dp.same s6 hd1')
          have hd2'' := m7.dp pd2.nl (Dp.same s6 hd2)
          have hs7 := m7.out _ _ W6.hs (by simp [s2])
          obtain ⟨vq, eq6, aq6⟩ := W6.hq
          have eq7 := m7.out _ _ eq6 (by simp [q1])
          have aq7 := m7.dpAll W.wb.pw.nl aq6
          obtain ⟨vs6, e6, a6⟩ := W6.hr
          have S6 := S5.same s6
          have S7 := S6.md m7 (by simp; exact fun z => np (by rw [z]; simp)) (by simp; exact fun z => nl (by rw [z]; simp))
          refine ⟨_, rfl, _, rfl, _, rfl, _, rfl, x, dx, lw, lt, kd, ws, ds, v0, v1, v2, d0, d1, d2, rfl, wb7, hd0 _, hd1'', hd2'', by omega, Ne.symm w1, fun p8 H8 ds' m8 hdp e8 W8 => ?_⟩
          rw [← e8] at a7
          obtain ⟨vr5, er5, _⟩ := W5.hr
          obtain ⟨vt5, et5, _⟩ := W5.wb.ht
          have pur : pu ≠ r := Ne.symm (ne_of_none er5 npu)
          have put : pu ≠ lt := Ne.symm (ne_of_none et5 npu)
          have hdu8 : Dp K H8 (.ref pu) (.list (dueD ws.length d0 d1 d2)) := .lst (SqL.of (m8.out _ _ (m7.out _ _ epu (by simp [pur])) (by simp [put]))) (m8.dpAll nlD (m7.dpAll nlD aus))
          refine ⟨_, rfl, _, _, hdp, hdu8, shD, shD, ?_⟩
          rw [SeqAt.eqv_refl _ (SeqAt.canLay_of_shaped shD)]
          refine hQ H8 ws ds' (mH.trans (m8.mono (by simp))) (S7.md m8 (by simp; exact fun z => np (by rw [z]; simp)) (by simp; exact fun z => nl (by rw [z]; simp))) ⟨W8, m8.out _ _ hs7 (by simp; exact Ne.symm t2), ⟨vq, m8.out _ _ eq7 (by simp; exact Ne.symm t3), m8.dpAll W.wb.pw.nl aq7⟩, ⟨vs7, m8.out _ _ e7 (by simp; exact Ne.symm t4), m8.dpAll W8.pd.nl a7⟩, W.nd⟩ (by omega) ?_
          rw [e8]
          split <;> simp
end
end K06
namespace K06
open PySem PySem.Spec PyProof.Rows L2 He TL EL
/-- the places of a web and its state -/
structure Ad where
  x : Addr
  dx : Addr
  lw : Addr
  lt : Addr
  kd : Addr
  st : Addr
  q : Addr
  r : Addr
abbrev Ad.l (A : Ad) : List Addr := [A.x, A.lw, A.lt, A.kd, A.st, A.q, A.r]
abbrev PrA (K : PySem.W.Frag) (H : Hp) (A : Ad) (ws ds : List PyData) : Prop := Pr K H A.x A.dx A.lw A.lt A.kd A.st A.q A.r ws ds
structure Sit (K : PySem.W.Frag) (H : Hp) (p l wl sl : Addr) (A B : Ad) (wa da wb db : List PyData) (n : Nat) : Prop where
  src : Src H p l
  hwl : H wl = some (.lst [.ref A.x, .ref B.x])
  hsl : H sl = some (.lst [.ref A.st, .ref B.st])
  pa : PrA K H A wa da
  pb : PrA K H B wb db
  ab : ∀ a ∈ A.l, a ∉ B.l
  ar : ∀ a ∈ A.l, a ∉ [p, l, wl, sl]
  br : ∀ a ∈ B.l, a ∉ [p, l, wl, sl]
  nr : [p, l, wl, sl].Nodup
  n1 : wa.length ≤ n
  n2 : da.length ≤ n
  n3 : wb.length ≤ n
  n4 : db.length ≤ n
section
variable {K : PySem.W.Frag} {H H' : Hp} {p l wl sl : Addr} {A B : Ad} {wa da wb db wa' da' : List PyData} {n : Nat}
theorem Sit.same (S : Sit K H p l wl sl A B wa da wb db n) (s : Same H H') : Sit K H' p l wl sl A B wa da wb db n :=
  ⟨S.src.same s, s _ _ S.hwl, s _ _ S.hsl, S.pa.same s, S.pb.same s, S.ab, S.ar, S.br, S.nr, S.n1, S.n2, S.n3, S.n4⟩
theorem Sit.draw (S : Sit K H p l wl sl A B wa da wb db n) (b : But p H H') (S' : Src H' p l) : Sit K H' p l wl sl A B wa da wb db n := by
  obtain ⟨xs, hp⟩ := S.src.lst
  have m : Md [p] H H' := b.md hp rfl
  have nr := S.nr
  simp only [List.nodup_cons, List.mem_cons, List.not_mem_nil, not_or, or_false] at nr
  obtain ⟨⟨p1, p2, p3⟩, _⟩ := nr
  exact ⟨S', m.out _ _ S.hwl (by simp; exact Ne.symm p2), m.out _ _ S.hsl (by simp; exact Ne.symm p3), S.pa.md m (fun a ha hb => by cases List.mem_singleton.mp hb; exact S.ar _ ha (by simp)), S.pb.md m (fun a ha hb => by cases List.mem_singleton.mp hb; exact S.br _ ha (by simp)), S.ab, S.ar, S.br, S.nr, S.n1, S.n2, S.n3, S.n4⟩
theorem Sit.deedA (S : Sit K H p l wl sl A B wa da wb db n) (m : Md (p :: A.l) H H') (S' : Src H' p l) (W : PrA K H' A wa' da') (h1 : wa'.length ≤ wa.length + 1) (h2 : da'.length ≤ da.length + 1) : Sit K H' p l wl sl A B wa' da' wb db (n + 1) := by
  have nr := S.nr
  simp only [List.nodup_cons, List.mem_cons, List.not_mem_nil, not_or, or_false] at nr
  obtain ⟨⟨p1, p2, p3⟩, _⟩ := nr
  have out : ∀ b ∈ [wl, sl], b ∉ p :: A.l := fun b hb hb' => by
    rcases List.mem_cons.mp hb' with z | z
    · simp only [List.mem_cons, List.not_mem_nil, or_false] at hb
      rcases hb with hb | hb
      · exact p2 (by rw [← z, hb])
      · exact p3 (by rw [← z, hb])
    · exact S.ar b z (List.mem_cons_of_mem _ (List.mem_cons_of_mem _ hb))
  have outB : ∀ b ∈ B.l, b ∉ p :: A.l := fun b hb hb' => by
    rcases List.mem_cons.mp hb' with z | z
    · exact S.br b hb (by rw [z]; simp)
    · exact S.ab b z hb
  refine ⟨S', m.out _ _ S.hwl (out _ (by simp)), m.out _ _ S.hsl (out _ (by simp)), W, S.pb.md m outB, S.ab, S.ar, S.br, S.nr, by have := S.n1; omega, by have := S.n2; omega, by have := S.n3; omega, by have := S.n4; omega⟩
theorem Sit.swap (S : Sit K H p l wl sl A B wa da wb db n) : PrA K H B wb db := S.pb
theorem Sit.deedB {wb' db' : List PyData} (S : Sit K H p l wl sl A B wa da wb db n) (m : Md (p :: B.l) H H') (S' : Src H' p l) (W : PrA K H' B wb' db') (h1 : wb'.length ≤ wb.length + 1) (h2 : db'.length ≤ db.length + 1) : Sit K H' p l wl sl A B wa da wb' db' (n + 1) := by
  have nr := S.nr
  simp only [List.nodup_cons, List.mem_cons, List.not_mem_nil, not_or, or_false] at nr
  obtain ⟨⟨p1, p2, p3⟩, _⟩ := nr
  have out : ∀ b ∈ [wl, sl], b ∉ p :: B.l := fun b hb hb' => by
    rcases List.mem_cons.mp hb' with z | z
    · simp only [List.mem_cons, List.not_mem_nil, or_false] at hb
      rcases hb with hb | hb
      · exact p2 (by rw [← z, hb])
      · exact p3 (by rw [← z, hb])
    · exact S.br b z (List.mem_cons_of_mem _ (List.mem_cons_of_mem _ hb))
  have outA : ∀ b ∈ A.l, b ∉ p :: B.l := fun b hb hb' => by
    rcases List.mem_cons.mp hb' with z | z
    · exact S.ar b hb (by rw [z]; simp)
    · exact S.ab b hb z
  refine ⟨S', m.out _ _ S.hwl (out _ (by simp)), m.out _ _ S.hsl (out _ (by simp)), S.pa.md m outA, W, S.ab, S.ar, S.br, S.nr, by have := S.n1; omega, by have := S.n2; omega, by have := S.n3; omega, by have := S.n4; omega⟩
/-- what stands in the heap is told apart from what is new -/
theorem Pr.some (W : PrA K H A wa da) : ∀ a ∈ A.l, ∃ o, H a = some o := by
  obtain ⟨⟨hx, ⟨v1, e1, _⟩, ⟨v2, e2, _⟩, ⟨kn, e3, _⟩, _, _⟩, hs, ⟨v4, e4, _⟩, ⟨v5, e5, _⟩, _⟩ := W
  intro a ha
  simp only [Ad.l, List.mem_cons, List.not_mem_nil, or_false] at ha
  rcases ha with rfl | rfl | rfl | rfl | rfl | rfl | rfl
  · exact ⟨_, hx⟩
  · exact ⟨_, e1⟩
  · exact ⟨_, e2⟩
  · exact ⟨_, e3⟩
  · exact ⟨_, hs⟩
  · exact ⟨_, e4⟩
  · exact ⟨_, e5⟩
end
end K06
namespace K06
open PySem PySem.Spec PyProof.Rows L2 He TL EL
theorem pds0 : Pds [] := fun _ z => by cases z
theorem dj {C D : List Addr} {H H' : Hp} (e : ∀ a ∈ C, ∃ o, H a = some o) (s : Same H H') (f : ∀ b ∈ D, H' b = none) : ∀ a ∈ C, a ∉ D := fun a ha hd => by
  obtain ⟨o, h⟩ := e a ha
  have := s a o h
  rw [f a hd] at this
  cases this
theorem all4 {Pp : Addr → Prop} {a b c d : Addr} (h1 : Pp a) (h2 : Pp b) (h3 : Pp c) (h4 : Pp d) : ∀ x ∈ [a, b, c, d], Pp x := by
  intro x hx
  simp only [List.mem_cons, List.not_mem_nil, or_false] at hx
  rcases hx with rfl | rfl | rfl | rfl <;> assumption
theorem all3 {Pp : Addr → Prop} {a b c : Addr} (h1 : Pp a) (h2 : Pp b) (h3 : Pp c) : ∀ x ∈ [a, b, c], Pp x := by
  intro x hx
  simp only [List.mem_cons, List.not_mem_nil, or_false] at hx
  rcases hx with rfl | rfl | rfl <;> assumption
theorem all1 {Pp : Addr → Prop} {a : Addr} (h1 : Pp a) : ∀ x ∈ [a], Pp x := fun x hx => by cases List.mem_singleton.mp hx; exact h1
theorem all2 {Pp : Addr → Prop} {a b : Addr} (h1 : Pp a) (h2 : Pp b) : ∀ x ∈ [a, b], Pp x := by
  intro x hx
  simp only [List.mem_cons, List.not_mem_nil, or_false] at hx
  rcases hx with rfl | rfl <;> assumption
theorem Wb.four {K : PySem.W.Frag} {H : Hp} {x dx lw lt kd : Addr} {ws ds : List PyData} (W : Wb K H x dx lw lt kd ws ds) (h : lw ≠ lt) : [x, lw, lt, kd].Nodup ∧ ∀ a ∈ [x, lw, lt, kd], ∃ o, H a = some o := by
  obtain ⟨n1, n2, n3, n4, n5⟩ := W.ne1
  obtain ⟨hx, ⟨v1, e1, _⟩, ⟨v2, e2, _⟩, ⟨kn, e3, _⟩, _, _⟩ := W
  refine ⟨by simp [n1, n2, n3, n4, n5, h], all4 ⟨_, hx⟩ ⟨_, e1⟩ ⟨_, e2⟩ ⟨_, e3⟩⟩
theorem nd43 {a b c d e f g : Addr} (h1 : [a, b, c, d].Nodup) (h2 : [e, f, g].Nodup) (h : ∀ x ∈ [a, b, c, d], x ∉ [e, f, g]) : [a, b, c, d, e, f, g].Nodup :=
  List.nodup_append.mpr ⟨h1, h2, fun x hx y hy z => h x hx (by rw [z]; exact hy)⟩
theorem dj2 {C1 C2 D : List Addr} (h1 : ∀ a ∈ C1, a ∉ D) (h2 : ∀ a ∈ C2, a ∉ D) : ∀ a ∈ C1 ++ C2, a ∉ D := fun a ha => (List.mem_append.mp ha).elim (h1 a) (h2 a)
theorem dj2' {C D1 D2 : List Addr} (h1 : ∀ a ∈ C, a ∉ D1) (h2 : ∀ a ∈ C, a ∉ D2) : ∀ a ∈ C, a ∉ D1 ++ D2 := fun a ha hb => (List.mem_append.mp hb).elim (h1 a ha) (h2 a ha)
theorem djs {C D : List Addr} (h : ∀ a ∈ C, a ∉ D) : ∀ a ∈ D, a ∉ C := fun a ha hb => h a hb ha
section
variable {P : Program} {w : World} {K : PySem.W.Frag} {mg : Str → Option Value} {base : Heap}
def spLaw (K : PySem.W.Frag) : Sp := fun vs H Q _ => ∃ (a : Addr) (ns : List Int), vs = [.ref a] ∧ SqL K H a (ns.map V.int) ∧ ns.length ≤ 63 ∧ ∀ H', Q (.bl true) H'
theorem ok_law {fd : FuncData} (hP : PF P "/claim/cut.py") (T : Txt K mg) (F : FunD K "law" "law" (defArgs s_law) (defBody s_law) (defScope s_law) ([] : List V) [] (ga K "law") fd) : FnOk P w K mg base CX0 6 (ga K "law") fd ["_law_script"] (spLaw K) := by
  have D__law_begin := d_begin (P := P) (w := w) (base := base) T
  have D__law_draw := d_draw (P := P) (w := w) (base := base) T
  have D__law_state := d_state (P := P) (w := w) (base := base) T
  have D__law_deed := d_deed (w := w) (base := base) hP T
  have D__law_odd := d_odd (P := P) (w := w) (base := base) T
  have D__law_told := d_told (P := P) (w := w) (base := base) T
  have D_twin := d_twin (P := P) (w := w) (base := base) T
  obtain ⟨fdI, FI, okI⟩ := ok_init (P := P) (w := w) (base := base) T
  have D_init := fnD FI okI 1 0 (by simp) rfl (fun _ _ _ _ _ _ _ us its h1 h2 => match us, its, h1, h2 with | [_], [_, _, _], _, _ => ⟨_, rfl, rfl⟩)
  refine F.ok sc_law (fun vs H Q E h => ?_) (fun cdv A outer s H vs Q E hr h => ?_)
  · obtain ⟨a, ns, rfl, _⟩ := h
    rfl
  · obtain ⟨a, ns, rfl, hS, _, q⟩ := h
    refine ⟨_, PSs.nox (pss_cons (ps_set (i := 1) sc_law.nd rfl (.inl rfl) (cl D__law_begin (hr.mono (by decide)) (pa_cons (pv 0) pa_nil)))
      (pss_cons (ps_set (i := 2) sc_law.nd rfl (.inl rfl) (pe_lst (pa_cons (pe_makeE0 T.m_Web D_init (hr.mono (by decide)) T.g_Web px0) (pa_cons (pe_makeE0 T.m_Web D_init (hr.mono (by decide)) T.g_Web px0) pa_nil))))
      (pss_cons (ps_set (i := 3) sc_law.nd rfl (.inl rfl) (pe_lst (pa_cons (cl D__law_state (hr.mono (by decide)) (pa_cons pe_int pa_nil)) (pa_cons (cl D__law_state (hr.mono (by decide)) (pa_cons pe_int pa_nil)) pa_nil))))
      (pss_cons (ps_set (i := 4) sc_law.nd rfl (.inl rfl) (cl D__law_draw (hr.mono (by decide)) (pa_cons (pv 1) (pa_cons pe_int pa_nil))))
      (pss_cons (ps_for PassesOwn.never rfl (pi_range1 (by rfl) T.z_range (pa_cons pe_int pa_nil)) (pg_name (i := 5) sc_law.nd rfl (.inl rfl))
      (pss_mid (ps_if (pt_cmpR op_eq (pv 5) (pv 4) (nomark _)) (pss_cons (ps_asg (pe_methE0 (pe_ix ix_list (pv 2) pe_int (fun _ _ => rfl)) T.o_Web.cl T.h_Web_twin D_twin (hr.mono (by decide)) px0) (pg_sub (pv 2) pe_int set_list))
      (pss_one (ps_asg (pe_lst (pa_cons (pe_callTy call_list_of (by rfl) T.z_list (by decide +kernel) (pa_cons (pe_ix ix_list (pe_ix ix_list (pv 3) pe_int (fun _ _ => rfl)) pe_int (fun _ _ => rfl)) pa_nil)) (pa_cons (pe_callTy call_list_of (by rfl) T.z_list (by decide +kernel) (pa_cons (pe_ix ix_list (pe_ix ix_list (pv 3) pe_int (fun _ _ => rfl)) pe_int (fun _ _ => rfl)) pa_nil)) pa_nil))) (pg_sub (pv 3) pe_int set_list)))) pss_nil)
      (pss_cons (ps_set (i := 6) sc_law.nd rfl (.inl rfl) (cl D__law_draw (hr.mono (by decide)) (pa_cons (pv 1) (pa_cons pe_int pa_nil))))
      (pss_cons (ps_if (PW.pt (pw_or (pt_not (pt_val (cl D__law_deed (hr.mono (by decide)) (pa_cons (pv 1) (pa_cons (pe_ix ix_list (pv 2) (pv 6) (fun _ _ => rfl)) (pa_cons (pe_ix ix_list (pv 3) (pv 6) (fun _ _ => rfl)) pa_nil)))))) (pw_or1 (pt_not (pt_val (cl D__law_odd (hr.mono (by decide)) (pa_cons (pe_ix ix_list (pv 2) (pv 6) (fun _ _ => rfl)) pa_nil))))))) (pss_one (ps_ret pe_bl)) pss_nil)
      (pss_one (ps_if (PW.pt (pw_or (pt_not (pt_val (cl D__law_told (hr.mono (by decide)) (pa_cons (pe_ix ix_list (pv 2) pe_int (fun _ _ => rfl)) (pa_cons (pe_ix ix_list (pv 3) pe_int (fun _ _ => rfl)) pa_nil))))) (pw_or1 (pt_not (pt_val (cl D__law_told (hr.mono (by decide)) (pa_cons (pe_ix ix_list (pv 2) pe_int (fun _ _ => rfl)) (pa_cons (pe_ix ix_list (pv 3) pe_int (fun _ _ => rfl)) pa_nil)))))))) (pss_one (ps_ret pe_bl)) pss_nil))))))
      (pss_one (ps_ret pe_bl))))))), ?_⟩
    refine ⟨_, rfl, a, ns, rfl, hS, fun p l H1 np nl s1 S1 => ?_⟩
    have mkn : ∀ (H : Hp) (x dx : Addr), H x = none → H dx = none → dx ≠ x → Same H (upd (upd H dx (.own x)) x (.ins (aWeb K) dx [])) := fun H x dx n1 n2 n3 => (same_upd n2).trans (same_upd (by rw [upd_ne (Ne.symm n3)]; exact n1))
    -- the first web
    refine fun x1 dx1 nx1 ndx1 hne1 => ?_
    refine ⟨x1, dx1, _, _, .non, [], [], [], rfl, upd_same, .inr (T.dw0 _), .inr (T.dw1 _), .inl ⟨rfl, rfl⟩, by simp, by decide, by decide, by decide, fun lw1 lt1 kd1 H2 m2 nw1 nt1 nk1 hn1 hx1 hw1 ht1 hk1 => ⟨rfl, ?_⟩⟩
    have sA := mkn H1 x1 dx1 nx1 ndx1 hne1
    have s2 : Same H1 H2 := fun b o hb => m2.out _ _ (sA _ _ hb) (by simp; exact ne_of_none hb nx1)
    have W1 : Wb K H2 x1 dx1 lw1 lt1 kd1 [] [] := ⟨hx1, ⟨_, hw1, .nil⟩, ⟨_, ht1, .nil⟩, ⟨_, hk1, .nil⟩, pds0, pds0⟩
    have f1 : ∀ b ∈ [x1, lw1, lt1, kd1], H1 b = none := all4 nx1 (sA.free nw1) (sA.free nt1) (sA.free nk1)
    obtain ⟨n41, e41⟩ := W1.four hn1
    -- the second web
    refine fun x2 dx2 nx2 ndx2 hne2 => ?_
    refine ⟨x2, dx2, _, _, .non, [], [], [], rfl, upd_same, .inr (T.dw0 _), .inr (T.dw1 _), .inl ⟨rfl, rfl⟩, by simp, by decide, by decide, by decide, fun lw2 lt2 kd2 H3 m3 nw2 nt2 nk2 hn2 hx2 hw2 ht2 hk2 => ⟨rfl, ?_⟩⟩
    have sB := mkn H2 x2 dx2 nx2 ndx2 hne2
    have s3 : Same H2 H3 := fun b o hb => m3.out _ _ (sB _ _ hb) (by simp; exact ne_of_none hb nx2)
    have W2 : Wb K H3 x2 dx2 lw2 lt2 kd2 [] [] := ⟨hx2, ⟨_, hw2, .nil⟩, ⟨_, ht2, .nil⟩, ⟨_, hk2, .nil⟩, pds0, pds0⟩
    have f2 : ∀ b ∈ [x2, lw2, lt2, kd2], H2 b = none := all4 nx2 (sB.free nw2) (sB.free nt2) (sB.free nk2)
    obtain ⟨n42, e42⟩ := W2.four hn2
    refine ⟨(by show 2 ≤ sizeLine; decide), fun wl nwl => ?_⟩
    generalize eH4 : upd H3 wl _ = H4
    have s4 : Same H3 H4 := eH4 ▸ same_upd nwl
    have h4 : H4 wl = some _ := eH4 ▸ upd_same
    -- the states
    refine ⟨rfl, fun st1 q1 r1 H5 s5 a1 a2 a3 a4 a5 a6 hs1 hq1 hr1 => ?_⟩
    refine ⟨rfl, fun st2 q2 r2 H6 s6 b1 b2 b3 b4 b5 b6 hs2 hq2 hr2 => ?_⟩
    refine ⟨(by show 2 ≤ sizeLine; decide), fun sl nsl => ?_⟩
    generalize eH7 : upd H6 sl _ = H7
    have s7 : Same H6 H7 := eH7 ▸ same_upd nsl
    have h7 : H7 sl = some _ := eH7 ▸ upd_same
    have s37 : Same H3 H7 := s4.trans (s5.trans (s6.trans s7))
    have s27 : Same H2 H7 := s3.trans s37
    have f3 : ∀ b ∈ [st1, q1, r1], H4 b = none := all3 a1 a2 a3
    have f4 : ∀ b ∈ [st2, q2, r2], H5 b = none := all3 b1 b2 b3
    have n31 : [st1, q1, r1].Nodup := by simp [a4, a5, a6]
    have n32 : [st2, q2, r2].Nodup := by simp [b4, b5, b6]
    have e31 : ∀ b ∈ [st1, q1, r1], ∃ o, H5 b = some o := all3 ⟨_, hs1⟩ ⟨_, hq1⟩ ⟨_, hr1⟩
    have e32 : ∀ b ∈ [st2, q2, r2], ∃ o, H6 b = some o := all3 ⟨_, hs2⟩ ⟨_, hq2⟩ ⟨_, hr2⟩
    obtain ⟨xp, hp1⟩ := S1.lst
    obtain ⟨xl, hl1⟩ := S1.lst2
    have epl : ∀ b ∈ [p, l], ∃ o, H1 b = some o := all2 ⟨_, hp1⟩ ⟨_, hl1⟩
    have ewl : ∀ b ∈ [wl], ∃ o, H4 b = some o := all1 ⟨_, h4⟩
    have fwl : ∀ b ∈ [wl], H3 b = none := all1 nwl
    have fsl : ∀ b ∈ [sl], H6 b = none := all1 nsl
    have rf : ∀ X : Hp, Same X X := fun X => .refl X
    let A1 : Ad := ⟨x1, dx1, lw1, lt1, kd1, st1, q1, r1⟩
    let A2 : Ad := ⟨x2, dx2, lw2, lt2, kd2, st2, q2, r2⟩
    have d13 : ∀ a ∈ [x1, lw1, lt1, kd1], a ∉ [st1, q1, r1] := dj e41 (s3.trans s4) f3
    have d14 : ∀ a ∈ [x1, lw1, lt1, kd1], a ∉ [st2, q2, r2] := dj e41 (s3.trans (s4.trans s5)) f4
    have d12 : ∀ a ∈ [x1, lw1, lt1, kd1], a ∉ [x2, lw2, lt2, kd2] := dj e41 (rf _) f2
    have d23 : ∀ a ∈ [x2, lw2, lt2, kd2], a ∉ [st1, q1, r1] := dj e42 s4 f3
    have d24 : ∀ a ∈ [x2, lw2, lt2, kd2], a ∉ [st2, q2, r2] := dj e42 (s4.trans s5) f4
    have d34 : ∀ a ∈ [st1, q1, r1], a ∉ [st2, q2, r2] := dj e31 (rf _) f4
    have p1 := djs (dj epl (rf _) f1)
    have p2 := djs (dj epl s2 f2)
    have p3 := djs (dj epl (s2.trans (s3.trans s4)) f3)
    have p4 := djs (dj epl (s2.trans (s3.trans (s4.trans s5))) f4)
    have w1 := dj e41 s3 fwl
    have w2 := dj e42 (rf _) fwl
    have w3 := djs (dj ewl (rf _) f3)
    have w4 := djs (dj ewl s5 f4)
    have z1 := dj e41 (s3.trans (s4.trans (s5.trans s6))) fsl
    have z2 := dj e42 (s4.trans (s5.trans s6)) fsl
    have z3 := dj e31 s6 fsl
    have z4 := dj e32 (rf _) fsl
    have pw := dj epl (s2.trans s3) fwl
    have pz := dj epl (s2.trans (s3.trans (s4.trans (s5.trans s6)))) fsl
    have wz := dj ewl (s5.trans s6) fsl
    have hqa : H7 q1 = some (.lst []) := s7 _ _ (s6 _ _ hq1)
    have hra : H7 r1 = some (.lst []) := s7 _ _ (s6 _ _ hr1)
    have start : Sit K H7 p l wl sl A1 A2 [] [] [] [] 0 := by
      refine ⟨S1.same (s2.trans s27), (s5.trans (s6.trans s7)) _ _ h4, h7, ⟨W1.same s27, s7 _ _ (s6 _ _ hs1), ⟨_, hqa, .nil⟩, ⟨_, hra, .nil⟩, nd43 n41 n31 d13⟩, ⟨W2.same s37, s7 _ _ hs2, ⟨_, s7 _ _ hq2, .nil⟩, ⟨_, s7 _ _ hr2, .nil⟩, nd43 n42 n32 d24⟩, ?_, ?_, ?_, ?_, by simp, by simp, by simp, by simp⟩
      · exact dj2 (C1 := [x1, lw1, lt1, kd1]) (C2 := [st1, q1, r1]) (D := [x2, lw2, lt2, kd2] ++ [st2, q2, r2]) (dj2' d12 d14) (dj2' (djs d23) d34)
      · exact dj2 (C1 := [x1, lw1, lt1, kd1]) (C2 := [st1, q1, r1]) (D := [p, l] ++ ([wl] ++ [sl])) (dj2' p1 (dj2' w1 z1)) (dj2' p3 (dj2' w3 z3))
      · exact dj2 (C1 := [x2, lw2, lt2, kd2]) (C2 := [st2, q2, r2]) (D := [p, l] ++ ([wl] ++ [sl])) (dj2' p2 (dj2' w2 z2)) (dj2' p4 (dj2' w4 z4))
      · have hlp := S1.ne
        exact (List.nodup_append (l₁ := [p, l]) (l₂ := [wl] ++ [sl])).mpr ⟨by simp; exact Ne.symm hlp, (List.nodup_append (l₁ := [wl]) (l₂ := [sl])).mpr ⟨by simp, by simp, fun x hx y hy z => wz x hx (by rw [z]; exact hy)⟩, fun x hx y hy z => (dj2' pw pz) x hx (by rw [z]; exact hy)⟩
    refine ⟨_, rfl, p, l, 8, rfl, by decide, by decide, start.src, fun n H8 n0 n1 S8 b8 => ?_⟩
    have start8 := start.draw b8 S8
    clear_value A1 A2
    refine ⟨14, rfl, by decide, by decide, for_range (n := 14) (fun i σ H' => ∃ (o5 o6 : Option V) (B : Ad) (wa da wb db : List PyData), σ = [some (.ref a), some (.ref p), some (.ref wl), some (.ref sl), some (.int n), o5, o6] ∧ Sit K H' p l wl sl A1 B wa da wb db i) ⟨none, none, A2, [], [], [], [], rfl, start8⟩ ?_ (fun σ H' _ => q H')⟩
    rintro i σ H9 hi ⟨o5, o6, B, wa, da, wb, db, rfl, Z⟩
    refine ⟨fun σ' H' => ∃ (o6 : Option V) (B : Ad) (wb db : List PyData), σ' = [some (.ref a), some (.ref p), some (.ref wl), some (.ref sl), some (.int n), some (.int (0 + (i : Int))), o6] ∧ Sit K H' p l wl sl A1 B wa da wb db i, ?_, ?_⟩
    · refine ⟨_, rfl, _, rfl, rfl, _, rfl, ie (fun c => ?_) (fun c => ?_)⟩
      · refine ⟨_, rfl, _, _, 0, _, rfl, rfl, SqL.of Z.hwl, atI_nat (j := 0) rfl, _, _, _, rfl, Z.pa.wb.hx, webF_no (by decide) (by decide) (by decide), ?_⟩
        refine ⟨A1.x, A1.dx, A1.lw, A1.lt, A1.kd, wa, da, rfl, Z.pa.wb, by have := Z.n1; omega, by have := Z.n2; omega, fun x3 dx3 lw3 lt3 kd3 G1 t1 g1 g2 g3 g4 hn3 W3 => ?_⟩
        have Z1 := Z.same t1
        refine ⟨_, rfl, wl, _, 1, 1, rfl, rfl, Z1.hwl, rfl, ?_⟩
        generalize eG2 : upd G1 wl _ = G2
        have u2 : Md [wl] G1 G2 := eG2 ▸ Md.upd Z1.hwl rfl (by simp)
        have wl2 : G2 wl = some (.lst [.ref A1.x, .ref x3]) := eG2 ▸ upd_same
        have nr := Z.nr
        simp only [List.nodup_cons, List.mem_cons, List.not_mem_nil, not_or, or_false] at nr
        obtain ⟨⟨r1', r2', r3'⟩, ⟨r4', r5'⟩, r6', _⟩ := nr
        have awl : ∀ a ∈ A1.l, a ∉ [wl] := fun a ha hb => by cases List.mem_singleton.mp hb; exact Z.ar _ ha (by simp)
        have pa2 : PrA K G2 A1 wa da := Z1.pa.md u2 awl
        have sl2 := u2.out _ _ Z1.hsl (by simp; exact Ne.symm r6')
        obtain ⟨vq, eq2, aq2⟩ := pa2.hq
        obtain ⟨vr, er2, ar2⟩ := pa2.hr
        refine ⟨_, rfl, _, _, 0, _, rfl, rfl, SqL.of sl2, atI_nat (j := 0) rfl, _, _, 0, _, rfl, rfl, SqL.of pa2.hs, atI_nat (j := 0) rfl, _, _, rfl, .inl (SqL.of eq2), fun q3 nq3 => ?_⟩
        generalize eG3 : upd G2 q3 _ = G3
        have t3 : Same G2 G3 := eG3 ▸ same_upd nq3
        have eq3 : G3 q3 = some _ := eG3 ▸ upd_same
        refine ⟨_, rfl, _, _, 0, _, rfl, rfl, SqL.of (t3 _ _ sl2), atI_nat (j := 0) rfl, _, _, 1, _, rfl, rfl, SqL.of (t3 _ _ pa2.hs), atI_nat (j := 1) rfl, _, _, rfl, .inl (SqL.of (t3 _ _ er2)), fun r3 nr3 => ?_⟩
        generalize eG4 : upd G3 r3 _ = G4
        have t4 : Same G3 G4 := eG4 ▸ same_upd nr3
        have er4 : G4 r3 = some _ := eG4 ▸ upd_same
        refine ⟨(by show 2 ≤ sizeLine; decide), fun st3 nst3 => ?_⟩
        generalize eG5 : upd G4 st3 _ = G5
        have t5 : Same G4 G5 := eG5 ▸ same_upd nst3
        have es5 : G5 st3 = some _ := eG5 ▸ upd_same
        have t25 : Same G2 G5 := t3.trans (t4.trans t5)
        refine ⟨_, rfl, sl, _, 1, 1, rfl, rfl, t25 _ _ sl2, rfl, ?_⟩
        generalize eG6 : upd G5 sl _ = G6
        have u6 : Md [sl] G5 G6 := eG6 ▸ Md.upd (t25 _ _ sl2) rfl (by simp)
        have sl6 : G6 sl = some (.lst [.ref A1.st, .ref st3]) := eG6 ▸ upd_same
        -- the places
        have f43 : ∀ b ∈ [x3, lw3, lt3, kd3], H9 b = none := all4 g1 g2 g3 g4
        obtain ⟨n43, e43⟩ := W3.four hn3
        have eA : ∀ b ∈ A1.l, ∃ o, H9 b = some o := Z.pa.some
        obtain ⟨xp9, hp9⟩ := Z.src.lst
        obtain ⟨xl9, hl9⟩ := Z.src.lst2
        have eR : ∀ b ∈ [p, l, wl, sl], ∃ o, H9 b = some o := all4 ⟨_, hp9⟩ ⟨_, hl9⟩ ⟨_, Z.hwl⟩ ⟨_, Z.hsl⟩
        have k2 : ∀ {b : Addr}, (∃ o, G1 b = some o) → ∃ o, G2 b = some o := fun {b} ⟨o, h⟩ => by
          by_cases z : b = wl
          · exact ⟨_, by rw [z]; exact wl2⟩
          · exact ⟨o, u2.out _ _ h (by simp [z])⟩
        have up1 : ∀ {C : List Addr}, (∀ b ∈ C, ∃ o, H9 b = some o) → ∀ b ∈ C, ∃ o, G1 b = some o := fun h b hb => let ⟨o, e⟩ := h b hb; ⟨o, t1 _ _ e⟩
        have fst : ∀ b ∈ [st3, q3, r3], G2 b = none := all3 (t3.free (t4.free nst3)) nq3 (t3.free nr3)
        have nst : [st3, q3, r3].Nodup := by
          have y1 : st3 ≠ q3 := Ne.symm (ne_of_none (t4 _ _ eq3) nst3)
          have y2 : st3 ≠ r3 := Ne.symm (ne_of_none er4 nst3)
          have y3 : q3 ≠ r3 := ne_of_none eq3 nr3
          simp [y1, y2, y3]
        have dA4 : ∀ a ∈ A1.l, a ∉ [x3, lw3, lt3, kd3] := dj eA (.refl _) f43
        have dR4 : ∀ a ∈ [p, l, wl, sl], a ∉ [x3, lw3, lt3, kd3] := dj eR (.refl _) f43
        have dA3 : ∀ a ∈ A1.l, a ∉ [st3, q3, r3] := dj (fun b hb => k2 (up1 eA b hb)) (.refl _) fst
        have dR3 : ∀ a ∈ [p, l, wl, sl], a ∉ [st3, q3, r3] := dj (fun b hb => k2 (up1 eR b hb)) (.refl _) fst
        have d43 : ∀ a ∈ [x3, lw3, lt3, kd3], a ∉ [st3, q3, r3] := dj (fun b hb => k2 (e43 b hb)) (.refl _) fst
        let B3 : Ad := ⟨x3, dx3, lw3, lt3, kd3, st3, q3, r3⟩
        have in4 : ∀ {b : Addr}, b ∈ [x3, lw3, lt3, kd3] → b ∉ [wl] ∧ b ∉ [sl] := fun {b} hb => ⟨fun z => dR4 wl (by simp) (by rw [← List.mem_singleton.mp z]; exact hb), fun z => dR4 sl (by simp) (by rw [← List.mem_singleton.mp z]; exact hb)⟩
        have in3 : ∀ {b : Addr}, b ∈ [st3, q3, r3] → b ∉ [sl] := fun {b} hb z => dR3 sl (by simp) (by rw [← List.mem_singleton.mp z]; exact hb)
        have W6 : Wb K G6 x3 dx3 lw3 lt3 kd3 wa da := ((W3.md u2 (in4 (by simp)).1 (in4 (by simp)).1 (in4 (by simp)).1 (in4 (by simp)).1).same t25).md u6 (in4 (by simp)).2 (in4 (by simp)).2 (in4 (by simp)).2 (in4 (by simp)).2
        have asl : ∀ a ∈ A1.l, a ∉ [sl] := fun a ha hb => by cases List.mem_singleton.mp hb; exact Z.ar _ ha (by simp)
        have S6 : Src G6 p l := ((Z1.src.md u2 (by simp [r2']) (by simp [r4'])).same t25).md u6 (by simp [r3']) (by simp [r5'])
        refine ⟨o6, B3, wa, da, rfl, S6, u6.out _ _ (t25 _ _ wl2) (by simp [r6']), sl6, (pa2.same t25).md u6 asl, ⟨W6, u6.out _ _ es5 (in3 (b := st3) (by simp)), ⟨_, u6.out _ _ (t5 _ _ (t4 _ _ eq3)) (in3 (b := q3) (by simp)), u6.dpAll Z.pa.wb.pw.nl (DpAll.same t25 aq2)⟩, ⟨_, u6.out _ _ (t5 _ _ er4) (in3 (b := r3) (by simp)), u6.dpAll Z.pa.wb.pd.nl (DpAll.same t25 ar2)⟩, nd43 n43 nst d43⟩, ?_, Z.ar, ?_, Z.nr, Z.n1, Z.n2, Z.n1, Z.n2⟩
        · exact dj2' (D1 := [x3, lw3, lt3, kd3]) (D2 := [st3, q3, r3]) dA4 dA3
        · exact dj2 (C1 := [x3, lw3, lt3, kd3]) (C2 := [st3, q3, r3]) (djs dR4) (djs dR3)
      · exact ⟨o6, B, wb, db, rfl, Z⟩
    · rintro σ' HA ⟨o6', B', wb', db', rfl, Z'⟩
      refine ⟨_, rfl, p, l, 2, rfl, by decide, by decide, Z'.src, fun k HB k0 k1 SB bB => ?_⟩
      have ZB := Z'.draw bB SB
      have le13 : i ≤ 13 := by omega
      -- the deed
      have fin : ∀ HC wa2 da2 wb2 db2, Sit K HC p l wl sl A1 B' wa2 da2 wb2 db2 (i + 1) → ∀ HD, Same HC HD → Sit K HD p l wl sl A1 B' wa2 da2 wb2 db2 (i + 1) := fun HC wa2 da2 wb2 db2 z HD s => z.same s
      by_cases hk : k = 0
      · subst hk
        refine ⟨_, rfl, _, rfl, _, rfl, _, _, 0, _, rfl, rfl, SqL.of ZB.hwl, atI_nat (j := 0) rfl, _, rfl, _, rfl, _, _, 0, _, rfl, rfl, SqL.of ZB.hsl, atI_nat (j := 0) rfl, ?_⟩
        refine ⟨p, l, A1.x, A1.dx, A1.lw, A1.lt, A1.kd, A1.st, A1.q, A1.r, _, _, rfl, ZB.src, ZB.pa, fun z => ZB.ar _ z (by simp), fun z => ZB.ar _ z (by simp), by have := ZB.n1; omega, by have := ZB.n2; omega, fun HC ws' ds' mC SC WC h1 h2 => ?_⟩
        refine ⟨_, rfl, iteF ?_⟩
        have ZC := ZB.deedA mC SC WC h1 h2
        refine ⟨_, rfl, _, rfl, _, _, 0, _, rfl, rfl, SqL.of ZC.hwl, atI_nat (j := 0) rfl, ?_⟩
        refine ⟨A1.x, A1.dx, A1.lw, A1.lt, A1.kd, _, _, rfl, ZC.pa.wb, fun HD sD => ?_⟩
        refine ⟨_, rfl, iteF ?_⟩
        have ZD := ZC.same sD
        refine ⟨_, rfl, _, _, 0, _, rfl, rfl, SqL.of ZD.hwl, atI_nat (j := 0) rfl, _, rfl, _, _, 0, _, rfl, rfl, SqL.of ZD.hsl, atI_nat (j := 0) rfl, ?_⟩
        refine ⟨A1.x, A1.dx, A1.lw, A1.lt, A1.kd, A1.st, A1.q, A1.r, _, _, rfl, ZD.pa, by have := ZD.n1; omega, by have := ZD.n2; omega, fun HE sE => ?_⟩
        refine ⟨_, rfl, iteF ?_⟩
        have ZE := ZD.same sE
        refine ⟨_, rfl, _, _, 1, _, rfl, rfl, SqL.of ZE.hwl, atI_nat (j := 1) rfl, _, rfl, _, _, 1, _, rfl, rfl, SqL.of ZE.hsl, atI_nat (j := 1) rfl, ?_⟩
        refine ⟨B'.x, B'.dx, B'.lw, B'.lt, B'.kd, B'.st, B'.q, B'.r, _, _, rfl, ZE.pb, by have := ZE.n3; omega, by have := ZE.n4; omega, fun HF sF => ?_⟩
        refine ⟨_, rfl, iteF ?_⟩
        exact ⟨_, _, B', _, _, _, _, rfl, ZE.same sF⟩
      · have hk1 : k = 1 := by omega
        subst hk1
        refine ⟨_, rfl, _, rfl, _, rfl, _, _, 1, _, rfl, rfl, SqL.of ZB.hwl, atI_nat (j := 1) rfl, _, rfl, _, rfl, _, _, 1, _, rfl, rfl, SqL.of ZB.hsl, atI_nat (j := 1) rfl, ?_⟩
        refine ⟨p, l, B'.x, B'.dx, B'.lw, B'.lt, B'.kd, B'.st, B'.q, B'.r, _, _, rfl, ZB.src, ZB.pb, fun z => ZB.br _ z (by simp), fun z => ZB.br _ z (by simp), by have := ZB.n3; omega, by have := ZB.n4; omega, fun HC ws' ds' mC SC WC h1 h2 => ?_⟩
        refine ⟨_, rfl, iteF ?_⟩
        have ZC := ZB.deedB mC SC WC h1 h2
        refine ⟨_, rfl, _, rfl, _, _, 1, _, rfl, rfl, SqL.of ZC.hwl, atI_nat (j := 1) rfl, ?_⟩
        refine ⟨B'.x, B'.dx, B'.lw, B'.lt, B'.kd, _, _, rfl, ZC.pb.wb, fun HD sD => ?_⟩
        refine ⟨_, rfl, iteF ?_⟩
        have ZD := ZC.same sD
        refine ⟨_, rfl, _, _, 0, _, rfl, rfl, SqL.of ZD.hwl, atI_nat (j := 0) rfl, _, rfl, _, _, 0, _, rfl, rfl, SqL.of ZD.hsl, atI_nat (j := 0) rfl, ?_⟩
        refine ⟨A1.x, A1.dx, A1.lw, A1.lt, A1.kd, A1.st, A1.q, A1.r, _, _, rfl, ZD.pa, by have := ZD.n1; omega, by have := ZD.n2; omega, fun HE sE => ?_⟩
        refine ⟨_, rfl, iteF ?_⟩
        have ZE := ZD.same sE
        refine ⟨_, rfl, _, _, 1, _, rfl, rfl, SqL.of ZE.hwl, atI_nat (j := 1) rfl, _, rfl, _, _, 1, _, rfl, rfl, SqL.of ZE.hsl, atI_nat (j := 1) rfl, ?_⟩
        refine ⟨B'.x, B'.dx, B'.lw, B'.lt, B'.kd, B'.st, B'.q, B'.r, _, _, rfl, ZE.pb, by have := ZE.n3; omega, by have := ZE.n4; omega, fun HF sF => ?_⟩
        refine ⟨_, rfl, iteF ?_⟩
        exact ⟨_, _, B', _, _, _, _, rfl, ZE.same sF⟩
end
end K06
namespace K06
open PySem PySem.Spec PyProof.Rows L2 He TL EL
def dd__wall : EL.DefE := ⟨fun K => (ga K "_wall"), "_wall", "_wall", defArgs s__wall, defBody s__wall, defScope s__wall, []⟩
def dd_is_whole : EL.DefE := ⟨fun K => (ga K "is_whole"), "is_whole", "is_whole", defArgs s_is_whole, defBody s_is_whole, defScope s_is_whole, []⟩
def dd_common_divisor : EL.DefE := ⟨fun K => (ga K "common_divisor"), "common_divisor", "common_divisor", defArgs s_common_divisor, defBody s_common_divisor, defScope s_common_divisor, []⟩
def dd_is_value : EL.DefE := ⟨fun K => (ga K "is_value"), "is_value", "is_value", defArgs s_is_value, defBody s_is_value, defScope s_is_value, []⟩
def dd_Web___init__ : EL.DefE := ⟨fun K => (ma K (ga K "Web") "__init__"), "__init__", "Web.__init__", defArgs s_Web___init__, defBody s_Web___init__, defScope s_Web___init__, [.adr (dflAt ("Web", some "__init__") 0), .adr (dflAt ("Web", some "__init__") 1), .non]⟩
def dd_Web___len__ : EL.DefE := ⟨fun K => (ma K (ga K "Web") "__len__"), "__len__", "Web.__len__", defArgs s_Web___len__, defBody s_Web___len__, defScope s_Web___len__, []⟩
def dd_Web_point : EL.DefE := ⟨fun K => (ma K (ga K "Web") "point"), "point", "Web.point", defArgs s_Web_point, defBody s_Web_point, defScope s_Web_point, []⟩
def dd_Web_fixed : EL.DefE := ⟨fun K => (ma K (ga K "Web") "fixed"), "fixed", "Web.fixed", defArgs s_Web_fixed, defBody s_Web_fixed, defScope s_Web_fixed, []⟩
def dd_Web_look : EL.DefE := ⟨fun K => (ma K (ga K "Web") "look"), "look", "Web.look", defArgs s_Web_look, defBody s_Web_look, defScope s_Web_look, []⟩
def dd_Web_demand : EL.DefE := ⟨fun K => (ma K (ga K "Web") "demand"), "demand", "Web.demand", defArgs s_Web_demand, defBody s_Web_demand, defScope s_Web_demand, []⟩
def dd_Web_demands : EL.DefE := ⟨fun K => (ma K (ga K "Web") "demands"), "demands", "Web.demands", defArgs s_Web_demands, defBody s_Web_demands, defScope s_Web_demands, []⟩
def dd_Web_twin : EL.DefE := ⟨fun K => (ma K (ga K "Web") "twin"), "twin", "Web.twin", defArgs s_Web_twin, defBody s_Web_twin, defScope s_Web_twin, []⟩
def dd__law_begin : EL.DefE := ⟨fun K => (ga K "_law_begin"), "_law_begin", "_law_begin", defArgs s__law_begin, defBody s__law_begin, defScope s__law_begin, []⟩
def dd__law_draw : EL.DefE := ⟨fun K => (ga K "_law_draw"), "_law_draw", "_law_draw", defArgs s__law_draw, defBody s__law_draw, defScope s__law_draw, []⟩
def dd__law_state : EL.DefE := ⟨fun K => (ga K "_law_state"), "_law_state", "_law_state", defArgs s__law_state, defBody s__law_state, defScope s__law_state, []⟩
def dd__law_demanded : EL.DefE := ⟨fun K => (ga K "_law_demanded"), "_law_demanded", "_law_demanded", defArgs s__law_demanded, defBody s__law_demanded, defScope s__law_demanded, []⟩
def dd__law_due : EL.DefE := ⟨fun K => (ga K "_law_due"), "_law_due", "_law_due", defArgs s__law_due, defBody s__law_due, defScope s__law_due, []⟩
def dd__law_number : EL.DefE := ⟨fun K => (ga K "_law_number"), "_law_number", "_law_number", defArgs s__law_number, defBody s__law_number, defScope s__law_number, []⟩
def dd__law_told : EL.DefE := ⟨fun K => (ga K "_law_told"), "_law_told", "_law_told", defArgs s__law_told, defBody s__law_told, defScope s__law_told, []⟩
def dd__law_fixed : EL.DefE := ⟨fun K => (ga K "_law_fixed"), "_law_fixed", "_law_fixed", defArgs s__law_fixed, defBody s__law_fixed, defScope s__law_fixed, []⟩
def dd__law_deed : EL.DefE := ⟨fun K => (ga K "_law_deed"), "_law_deed", "_law_deed", defArgs s__law_deed, defBody s__law_deed, defScope s__law_deed, []⟩
def dd__law_odd : EL.DefE := ⟨fun K => (ga K "_law_odd"), "_law_odd", "_law_odd", defArgs s__law_odd, defBody s__law_odd, defScope s__law_odd, []⟩
def dd_law : EL.DefE := ⟨fun K => (ga K "law"), "law", "law", defArgs s_law, defBody s_law, defScope s_law, []⟩
def fn : List EL.DefE := [dd__wall, dd_is_whole, dd_common_divisor, dd_is_value, dd_Web___init__, dd_Web___len__, dd_Web_point, dd_Web_fixed, dd_Web_look, dd_Web_demand, dd_Web_demands, dd_Web_twin, dd__law_begin, dd__law_draw, dd__law_state, dd__law_demanded, dd__law_due, dd__law_number, dd__law_told, dd__law_fixed, dd__law_deed, dd__law_odd, dd_law]
def fa : List He.Fa := [.glo "_wall", .glo "is_whole", .glo "common_divisor", .glo "is_value", .glo "_law_begin", .glo "_law_draw", .glo "_law_state", .glo "_law_demanded", .glo "_law_due", .glo "_law_number", .glo "_law_told", .glo "_law_fixed", .glo "_law_deed", .glo "_law_odd", .glo "law", .glo "NoPoint", .glo "Web", .glo "AskError", .exc "AskError", .glo "NoValue", .exc "NoValue", .glo "NoCondition", .exc "NoCondition", .glo "SIGNS", .free "ValueError", .free "super", .free "isinstance", .free "int", .free "bool", .free "abs", .free "tuple", .free "len", .free "list", .free "str", .free "range", .exm "NoCondition" "NoCondition" true, .exm "NoPoint" "NoCondition" false, .exm "NoPoint" "NoPoint" true, .exm "NoValue" "NoValue" true, .mkr "Web", .meth "Web" "__len__", .meth "Web" "point", .meth "Web" "fixed", .meth "Web" "look", .meth "Web" "demand", .meth "Web" "demands", .meth "Web" "twin", .noat "Web" "worths", .noat "Web" "wants", .noat "Web" "known"]
def xn : List EL.DefX := [xw_NoPoint]
def exL (K : PySem.W.Frag) : List Bool := [tupAB K (dflAt ("Web", some "__init__") 0 K), tupAB K (dflAt ("Web", some "__init__") 1 K), decide (PySem.W.kitOne K (.ref (ga K "NoCondition")) (.ref (ga K "AskError")) = some true), decide (PySem.W.kitOne K (.ref (ga K "NoPoint")) (.ref (ga K "AskError")) = some true), ocB K (ga K "Web"), tupB K "SIGNS" [.str "<", .str "<=", .str "=", .str "!="], xtB K "NoPoint" "number" "/claim/cut.py"]
def ex (K : PySem.W.Frag) : Bool := (exL K).all id
theorem txt_of {K : PySem.W.Frag} {h : Heap} {mg : Str → Option Value} (X : K.In h) (G : h.Ns mainGlobals mg) (cx : EL.SaysX fa fn xn ex K) : Txt K mg := by
  have c := cx.e
  have m := c.ex_
  exact ⟨He.glo_ok X G (c.fact 0 (by rfl)),
    He.glo_ok X G (c.fact 1 (by rfl)),
    He.glo_ok X G (c.fact 2 (by rfl)),
    He.glo_ok X G (c.fact 3 (by rfl)),
    He.glo_ok X G (c.fact 4 (by rfl)),
    He.glo_ok X G (c.fact 5 (by rfl)),
    He.glo_ok X G (c.fact 6 (by rfl)),
    He.glo_ok X G (c.fact 7 (by rfl)),
    He.glo_ok X G (c.fact 8 (by rfl)),
    He.glo_ok X G (c.fact 9 (by rfl)),
    He.glo_ok X G (c.fact 10 (by rfl)),
    He.glo_ok X G (c.fact 11 (by rfl)),
    He.glo_ok X G (c.fact 12 (by rfl)),
    He.glo_ok X G (c.fact 13 (by rfl)),
    He.glo_ok X G (c.fact 14 (by rfl)),
    He.glo_ok X G (c.fact 15 (by rfl)),
    He.glo_ok X G (c.fact 16 (by rfl)),
    xc_of (He.glo_ok X G (c.fact 17 (by rfl))) (He.exc_ok (c.fact 18 (by rfl))),
    xc_of (He.glo_ok X G (c.fact 19 (by rfl))) (He.exc_ok (c.fact 20 (by rfl))),
    xc_of (He.glo_ok X G (c.fact 21 (by rfl))) (He.exc_ok (c.fact 22 (by rfl))),
    He.glo_ok X G (c.fact 23 (by rfl)),
    He.free_ok X G (c.fact 24 (by rfl)),
    He.free_ok X G (c.fact 25 (by rfl)),
    He.free_ok X G (c.fact 26 (by rfl)),
    He.free_ok X G (c.fact 27 (by rfl)),
    He.free_ok X G (c.fact 28 (by rfl)),
    He.free_ok X G (c.fact 29 (by rfl)),
    He.free_ok X G (c.fact 30 (by rfl)),
    He.free_ok X G (c.fact 31 (by rfl)),
    He.free_ok X G (c.fact 32 (by rfl)),
    He.free_ok X G (c.fact 33 (by rfl)),
    He.free_ok X G (c.fact 34 (by rfl)),
    He.exm_ok (c.fact 35 (by rfl)),
    He.exm_ok (c.fact 36 (by rfl)),
    He.exm_ok (c.fact 37 (by rfl)),
    He.exm_ok (c.fact 38 (by rfl)),
    He.mkr_ok (c.fact 39 (by rfl)),
    He.meth_ok (c.fact 40 (by rfl)),
    He.meth_ok (c.fact 41 (by rfl)),
    He.meth_ok (c.fact 42 (by rfl)),
    He.meth_ok (c.fact 43 (by rfl)),
    He.meth_ok (c.fact 44 (by rfl)),
    He.meth_ok (c.fact 45 (by rfl)),
    He.meth_ok (c.fact 46 (by rfl)),
    He.noat_ok (c.fact 47 (by rfl)),
    He.noat_ok (c.fact 48 (by rfl)),
    He.noat_ok (c.fact 49 (by rfl)),
    c.def_ 0 (d := dd__wall) rfl,
    c.def_ 1 (d := dd_is_whole) rfl,
    c.def_ 2 (d := dd_common_divisor) rfl,
    c.def_ 3 (d := dd_is_value) rfl,
    c.def_ 4 (d := dd_Web___init__) rfl,
    c.def_ 5 (d := dd_Web___len__) rfl,
    c.def_ 6 (d := dd_Web_point) rfl,
    c.def_ 7 (d := dd_Web_fixed) rfl,
    c.def_ 8 (d := dd_Web_look) rfl,
    c.def_ 9 (d := dd_Web_demand) rfl,
    c.def_ 10 (d := dd_Web_demands) rfl,
    c.def_ 11 (d := dd_Web_twin) rfl,
    c.def_ 12 (d := dd__law_begin) rfl,
    c.def_ 13 (d := dd__law_draw) rfl,
    c.def_ 14 (d := dd__law_state) rfl,
    c.def_ 15 (d := dd__law_demanded) rfl,
    c.def_ 16 (d := dd__law_due) rfl,
    c.def_ 17 (d := dd__law_number) rfl,
    c.def_ 18 (d := dd__law_told) rfl,
    c.def_ 19 (d := dd__law_fixed) rfl,
    c.def_ 20 (d := dd__law_deed) rfl,
    c.def_ 21 (d := dd__law_odd) rfl,
    c.def_ 22 (d := dd_law) rfl,
    fun H => tupAB_ok (exG m 0 (by rfl)) H,
    fun H => tupAB_ok (exG m 1 (by rfl)) H,
    of_decide_eq_true (exG m 2 (by rfl)),
    of_decide_eq_true (exG m 3 (by rfl)),
    ocB_ok (exG m 4 (by rfl)),
    fun H => tupB_ok (exG m 5 (by rfl)) H,
    xt_of xwok_NoPoint (cx.xd 0 (by rfl)) (He.glo_ok X G (c.fact 15 (by rfl))) (He.free_ok X G (c.fact 25 (by rfl))) (exG m 6 (by rfl))⟩
def loose : List Str := ["_wall", "AskError", "NoValue", "NoCondition", "NoPoint", "SIGNS", "is_whole", "common_divisor", "is_value", "Web", "_law_begin", "_law_draw", "_law_state", "_law_demanded", "_law_due", "_law_number", "_law_told", "_law_fixed", "_law_deed", "_law_odd"]
abbrev R : PySem.W.OpenRow := PySem.W.OpenLaw.row PySem.Challenge.rw_endlessasks_k06_points_and_demands
abbrev hk : PySem.W.Hook := hookX 6 fa fn xn ex
def ob (s : PySem.W.SharedT) : AlX := obsXG 6 fa fn xn ex (HandSHeadRun.getT s)
theorem ob_eq (s : PySem.W.SharedT) : ob s = hk.obs s.abs := obsXG_eq (HandSHeadRun.getT_eq s)
theorem run (w : World) : HandSHeadRun.RunEq R (PySem.W.view R.prog [24]) hk ob 8000 loose w :=
  PySem.W.byRow2 "special-get-raises" (P := fun w => HandSHeadRun.RunEq R (PySem.W.view R.prog [24]) hk ob 8000 loose w) (fun w => by intro os; kernel_rfl) (fun w => by intro os; kernel_rfl) w
end K06
namespace K06
open PySem PySem.Spec PyProof.Rows L2 He TL EL
theorem facts {P : Program} {w : World} {K : PySem.W.Frag} {mg : Str → Option Value} {f : Addr} (hP : PF P "/claim/cut.py") (T : Txt K mg) (hfa : mg ("law" : Str) = some (.ref f)) :
    ∃ fd : FuncData, (∀ (s : Shared) (v : Value), BindsTo s fd ⟨[v], []⟩ [("_law_script", v)]) ∧ ∀ base : Heap, FnOk P w K mg base CX0 6 f fd ["_law_script"] (spLaw K) := by
  obtain ⟨fd, F⟩ := T.f_law
  have e := hfa.symm.trans T.g_law
  cases e
  have b := FunD.bindsA (ps := ["_law_script"]) F (fun _ _ _ _ _ _ us hl => match us, hl with | [_], _ => rfl)
  exact ⟨fd, fun s v => b s [v] rfl, fun base => ok_law hP T F⟩
end K06
open PySem PySem.W PySem.Calls PyProof.Rows
set_option maxHeartbeats 0 in
theorem PySem.Challenge.cw_endlessasks_k06_points_and_demands_holds : PySem.Challenge.rw_endlessasks_k06_points_and_demands.Holds := by
  w_on; o_law
  refine HandSHeadRun.head_any (r := OpenLaw.row PySem.Challenge.rw_endlessasks_k06_points_and_demands) (q := view (OpenLaw.row PySem.Challenge.rw_endlessasks_k06_points_and_demands).prog [24]) (H := K06.hk) (ob := K06.ob) (M := 8000) (loose := K06.loose) (d := HandSHeadRun.topDef (OpenLaw.row PySem.Challenge.rw_endlessasks_k06_points_and_demands).prog 24) (kwd := []) K06.ob_eq
    (by kernel_rfl) (fun s => by kernel_rfl) K06.run (by kernel_rfl) (by kernel_rfl) (by kernel_rfl) (by rfl) (by first | assumption | decide +kernel) (by decide +kernel) ⟨rfl, rfl, rfl, rfl, rfl, by decide +kernel⟩ ?hw ?hc
  case hw => w_witness2
  case hc =>
    refine L2.walk_ofE (l := PySem.Challenge.rw_endlessasks_k06_points_and_demands) (n := 63) (k := 6) (x := "_law_script") (CX := L2.CX0) rfl (by decide) (by kernel_rfl) ⟨rfl, by decide, by decide⟩ ?F (fun _ _ _ _ z => z)
    intro w mg fa h Y G hmg0
    obtain ⟨K, KX, c⟩ := Y
    have hmg : mg ("law" : PySem.Str) = some (.ref fa) := by
      have e : (HandSHeadRun.topDef (OpenLaw.row PySem.Challenge.rw_endlessasks_k06_points_and_demands).prog 24).name = ("law" : PySem.Str) := by kernel_rfl
      rw [← e]
      exact hmg0
    obtain ⟨fd, hb, hF⟩ := K06.facts (P := (PySem.Challenge.rw_endlessasks_k06_points_and_demands).prog) (w := w) ⟨by kernel_rfl, by kernel_rfl⟩ (K06.txt_of KX G c) hmg
    exact ⟨K, fd, K06.spLaw K, KX, hb, fun H a ns hl _ hS => ⟨a, ns, rfl, hS, hl, fun _ => rfl⟩, fun base _ _ => hF base⟩
