import PyProof.Rows.All
import Wide.All
import OpenK.AllK
import Wide.FinOn
import KE.KStateDown
import HandS.ForMost
import HandS.ForExc
import HandS.More
import HandS.Wide
import HandS.IsInst
import HandS.ExcIs
import HandS.FStr
import HandS.Defaults
import HandS.TupAny
import HandS.TupLe
import HandS.Deep
import HandS.Flow
import HandS.Walk
import HandS.Head0
import HandS.Head1
import HandS.Head2
import HandS.HeadEnd
import HandS.HeadHook1
import HandS.HeadHook2
import HandS.HeadNt
import PySem.Challenge.RW_endlessasks_k03_terms_and_atoms
set_option Elab.async false
set_option linter.all false
set_option maxRecDepth 100000
namespace EL
/-- the greatest common divisor, as the loop leaves it -/
def cd (a b : Int) : Int := ((Nat.gcd a.natAbs b.natAbs : Nat) : Int)
def nrm (t b : Int) : Int × Int := if b < 0 then ((-t) / cd (-t) (-b), (-b) / cd (-t) (-b)) else (t / cd t b, b / cd t b)
theorem cd_pos {a b : Int} (h : b ≠ 0) : 0 < cd a b := by
  unfold cd
  have := Nat.gcd_pos_of_pos_right a.natAbs (n := b.natAbs) (by omega)
  omega
theorem cd_dvd_l (a b : Int) : cd a b ∣ a := by
  unfold cd
  exact Int.ofNat_dvd_left.mpr (Nat.gcd_dvd_left _ _)
theorem cd_dvd_r (a b : Int) : cd a b ∣ b := by
  unfold cd
  exact Int.ofNat_dvd_left.mpr (Nat.gcd_dvd_right _ _)
theorem cd_neg_l (a b : Int) : cd (-a) b = cd a b := by unfold cd; rw [Int.natAbs_neg]
theorem cd_neg_r (a b : Int) : cd a (-b) = cd a b := by unfold cd; rw [Int.natAbs_neg]
/-- a value in lowest terms -/
def Low (a b : Int) : Prop := 0 < b ∧ cd a b = 1
theorem cd_div {a b : Int} (hb : b ≠ 0) : cd (a / cd a b) (b / cd a b) = 1 := by
  have hp := cd_pos (a := a) hb
  have e : ∀ x : Int, cd a b ∣ x → (x / cd a b).natAbs = x.natAbs / Nat.gcd a.natAbs b.natAbs := fun x hx => by
    rw [Int.natAbs_ediv_of_dvd hx]
    rfl
  show ((Nat.gcd (a / cd a b).natAbs (b / cd a b).natAbs : Nat) : Int) = 1
  rw [e a (cd_dvd_l a b), e b (cd_dvd_r a b), Nat.gcd_div (Nat.gcd_dvd_left _ _) (Nat.gcd_dvd_right _ _), Nat.div_self (Nat.gcd_pos_of_pos_right _ (by omega))]
  rfl
theorem nrm_low {t b : Int} (hb : b ≠ 0) : Low (nrm t b).1 (nrm t b).2 := by
  unfold nrm
  by_cases h : b < 0
  · rw [if_pos h]
    have hp := cd_pos (a := -t) (b := -b) (by omega)
    refine ⟨?_, cd_div (by omega)⟩
    exact Int.ediv_pos_of_pos_of_dvd (by omega) (Int.le_of_lt hp) (cd_dvd_r _ _)
  · rw [if_neg h]
    have hp := cd_pos (a := t) (b := b) hb
    refine ⟨?_, cd_div hb⟩
    exact Int.ediv_pos_of_pos_of_dvd (by omega) (Int.le_of_lt hp) (cd_dvd_r _ _)
theorem nrm_eq {t b : Int} (hb : b ≠ 0) : (nrm t b).1 * b = t * (nrm t b).2 := by
  unfold nrm
  by_cases h : b < 0
  · rw [if_pos h]
    have hp := cd_pos (a := -t) (b := -b) (by omega)
    obtain ⟨u, hu⟩ := cd_dvd_l (-t) (-b)
    obtain ⟨v, hv⟩ := cd_dvd_r (-t) (-b)
    generalize cd (-t) (-b) = g at *
    have e1 : -t / g = u := by rw [hu, Int.mul_ediv_cancel_left _ (by omega)]
    have e2 : -b / g = v := by rw [hv, Int.mul_ediv_cancel_left _ (by omega)]
    show -t / g * b = t * (-b / g)
    rw [e1, e2]
    have ht : t = -(g * u) := by omega
    have hb' : b = -(g * v) := by omega
    rw [ht, hb', Int.mul_neg, Int.neg_mul, Int.mul_left_comm, Int.mul_comm g u, Int.mul_assoc, Int.mul_left_comm u g v]
  · rw [if_neg h]
    have hp := cd_pos (a := t) (b := b) hb
    obtain ⟨u, hu⟩ := cd_dvd_l t b
    obtain ⟨v, hv⟩ := cd_dvd_r t b
    generalize cd t b = g at *
    have e1 : t / g = u := by rw [hu, Int.mul_ediv_cancel_left _ (by omega)]
    have e2 : b / g = v := by rw [hv, Int.mul_ediv_cancel_left _ (by omega)]
    show t / g * b = t * (b / g)
    rw [e1, e2, hu, hv, Int.mul_left_comm, Int.mul_assoc]
/-- two values in lowest terms that stand for one fraction are one -/
theorem low_unique {a b c d : Int} (h1 : Low a b) (h2 : Low c d) (h : a * d = c * b) : a = c ∧ b = d := by
  obtain ⟨hb, g1⟩ := h1
  obtain ⟨hd, g2⟩ := h2
  have c1 : Nat.gcd a.natAbs b.natAbs = 1 := by unfold cd at g1; omega
  have c2 : Nat.gcd c.natAbs d.natAbs = 1 := by unfold cd at g2; omega
  have hn : a.natAbs * d.natAbs = c.natAbs * b.natAbs := by rw [← Int.natAbs_mul, ← Int.natAbs_mul, h]
  have d1 : b.natAbs ∣ d.natAbs := by
    have : b.natAbs ∣ a.natAbs * d.natAbs := by rw [hn]; exact Nat.dvd_mul_left _ _
    exact (Nat.Coprime.symm (show Nat.Coprime a.natAbs b.natAbs from c1)).dvd_of_dvd_mul_left this
  have d2 : d.natAbs ∣ b.natAbs := by
    have : d.natAbs ∣ c.natAbs * b.natAbs := by rw [← hn]; exact Nat.dvd_mul_left _ _
    exact (Nat.Coprime.symm (show Nat.Coprime c.natAbs d.natAbs from c2)).dvd_of_dvd_mul_left this
  have e : b = d := by
    have := Nat.dvd_antisymm d1 d2
    omega
  subst e
  exact ⟨Int.eq_of_mul_eq_mul_right (by omega) h, rfl⟩
theorem nrm_scale {t b f : Int} (hb : b ≠ 0) (hf : f ≠ 0) : nrm (t * f) (b * f) = nrm t b := by
  have hbf : b * f ≠ 0 := Int.mul_ne_zero hb hf
  have l1 := nrm_low (t := t * f) hbf
  have l2 := nrm_low (t := t) hb
  have e1 := nrm_eq (t := t * f) hbf
  have e2 := nrm_eq (t := t) hb
  have u := low_unique l1 l2 (by
    generalize (nrm (t * f) (b * f)).1 = p at *
    generalize (nrm (t * f) (b * f)).2 = q at *
    generalize (nrm t b).1 = r at *
    generalize (nrm t b).2 = s at *
    -- p * (b f) = (t f) q ; r b = t s ; want p s = r q
    have hbf2 : p * b = t * q := by
      refine Int.eq_of_mul_eq_mul_right hf ?_
      rw [Int.mul_assoc, e1, Int.mul_assoc, Int.mul_comm f q, Int.mul_assoc]
    refine Int.eq_of_mul_eq_mul_right hb ?_
    calc p * s * b = (p * b) * s := by rw [Int.mul_assoc, Int.mul_comm s b, Int.mul_assoc]
      _ = (t * q) * s := by rw [hbf2]
      _ = (t * s) * q := by rw [Int.mul_assoc, Int.mul_comm q s, Int.mul_assoc]
      _ = r * b * q := by rw [e2]
      _ = r * q * b := by rw [Int.mul_assoc, Int.mul_comm b q, Int.mul_assoc])
  exact Prod.ext u.1 u.2
theorem nrm_one (t : Int) : nrm t 1 = (t, 1) := by
  have e : cd t 1 = 1 := by unfold cd; simp
  unfold nrm
  rw [if_neg (by omega), e]
  simp
end EL
namespace EL
open PySem PySem.Spec PyProof.Rows L2 He
/-! ### a def by its name -/
structure Dn (P : Program) (w : World) (K : PySem.W.Frag) (mg : Str → Option Value) (base : Heap) (CX : CXT) (k : Nat) (x : Str) (sp : Sp) : Prop where
  g : mg x = some (.ref (ga K x))
  kp : PySem.W.keepIn K (.ref (ga K x)) = true
  r : FnR P w K mg base CX k (ga K x) sp
section
variable {X : Cx} {CX : CXT} {k : Nat} {f : Addr} {sp : Sp} {E : L2.St → XK} {x : Str} {p pos : Pos} {e : Expr} {es : List Expr} {t : TA}
theorem run_fnRS {pins : List (Addr × Obj)} {σ : L2.St} {H : Hp} {s : Shared} {Q : VK} {us : List Value} {vs : List V} (F : FnR X.prog X.w X.K X.mg X.base CX k f sp) (hr : Room k X.A) (hx : PassesAt CX X σ (E σ))
    (I : Inv X pins σ H s) (r : Vals vs us) (h : sp vs H Q (E σ)) : wpAny (model X.prog X.w) X.A (call (.ref f) us) (EP X pins σ Q) X.xe s := by
  refine wpAny_call (codeAny_mono (F X.A X.stack s H us vs Q (E σ) hr I.env0 r h) fun r s' hq => ?_)
  cases r with
  | error e => exact hx pins H s e s' I hq
  | ok fl =>
    cases fl with
    | ret u => exact I.after hq
    | next => exact False.elim hq
    | brk => exact False.elim hq
    | cont => exact False.elim hq
theorem pe_fn (F : FnR X.prog X.w X.K X.mg X.base CX k f sp) (hr : Room k X.A) (hg : Gl X x) (hm : X.mg x = some (.ref f)) (hk : PySem.W.keepIn X.K (.ref f) = true) (hx : ∀ σ, PassesAt CX X σ (E σ))
    (ha : PA X (e :: es) t) (hdb : (x == ("__debug__" : Str)) = false := by decide) (he : starEach (e :: es) X.env = (false, eval e X.env) :: starEach es X.env := by rfl) (hpl : (backTo pos (starEach es X.env)).any (·.1) = false := by rfl) :
    PE X (.Call (.Name x p) (e :: es) [] pos) (tCallS sp E t) := by
  refine ⟨fun pins s σ H Q I h => ?_⟩
  refine wpAny_Call_Name_kw (ld_glob I hg hm ?_ hdb)
  refine PySem.W.callWith_K (h₀ := X.base) I.ok.mod.kin hk (thn (ha.run pos pins s σ H _ I h) fun us s1 ⟨vs, H1, I1, r, q⟩ => ⟨I1.kIn, ?_⟩) he hpl
  exact run_fnRS F hr (hx σ) I1 r q
/-- a call of a def that lets nothing out -/
theorem cl (D : Dn X.prog X.w X.K X.mg X.base CX0 k x sp) (hr : Room k X.A) (ha : PA X (e :: es) t) (hg : Gl X x := by rfl)
    (hdb : (x == ("__debug__" : Str)) = false := by decide) (he : starEach (e :: es) X.env = (false, eval e X.env) :: starEach es X.env := by rfl) (hpl : (backTo pos (starEach es X.env)).any (·.1) = false := by rfl) :
    PE X (.Call (.Name x p) (e :: es) [] pos) (tCallS sp (fun _ => E0) t) := pe_fn D.r hr hg D.g D.kp (fun _ _ _ _ _ _ _ h => h.elim) ha hdb he hpl
/-- a call of a def that may raise, where it raises nothing -/
theorem cl0 (D : Dn X.prog X.w X.K X.mg X.base (L2.CX X.prog X.w) k x sp) (hr : Room k X.A) (ha : PA X (e :: es) t) (hg : Gl X x := by rfl)
    (hdb : (x == ("__debug__" : Str)) = false := by decide) (he : starEach (e :: es) X.env = (false, eval e X.env) :: starEach es X.env := by rfl) (hpl : (backTo pos (starEach es X.env)).any (·.1) = false := by rfl) :
    PE X (.Call (.Name x p) (e :: es) [] pos) (tCallS sp (fun _ => E0) t) := pe_fn D.r hr hg D.g D.kp (fun σ pins H s e s' I h => passL pins σ H s e s' I h) ha hdb he hpl
/-- a call of a def that may raise -/
theorem clx {W : WX} (tk : Takes X W) (D : Dn X.prog X.w X.K X.mg X.base (L2.CX X.prog X.w) k x sp) (hr : Room k X.A) (ha : PA X (e :: es) t) (hg : Gl X x := by rfl)
    (hdb : (x == ("__debug__" : Str)) = false := by decide) (he : starEach (e :: es) X.env = (false, eval e X.env) :: starEach es X.env := by rfl) (hpl : (backTo pos (starEach es X.env)).any (·.1) = false := by rfl) :
    PE X (.Call (.Name x p) (e :: es) [] pos) (tCallS sp (WE W) t) := pe_fn D.r hr hg D.g D.kp (fun σ => passAt tk σ) ha hdb he hpl
/-- a module's name that holds a plain value -/
theorem pe_gv {v : V} {pos : Pos} (h : ∃ u, X.mg x = some u ∧ RelV v u) (hg : Gl X x := by rfl) (hd : (x == ("__debug__" : Str)) = false := by decide) : PE X (.Name x pos) (tC v) := by
  obtain ⟨u, h1, h2⟩ := h
  exact pe_glob hg h1 h2 hd
end
/-! ### own errors without an __init__ -/
structure XC (K : PySem.W.Frag) (mg : Str → Option Value) (x : Str) : Prop where
  g : mg x = some (.ref (ga K x))
  q : PySem.W.excIn K (ga K x) veBase "ValueError.__new__" = true
  k : PySem.W.keepIn K (.ref (ga K x)) = true
  b : PySem.W.subIn K (.ref (ga K x)) (.type "BaseException") = some true
  t : PySem.W.typeIn K (.ref (ga K x)) = some (.type "type")
/-- raise C('..') -/
theorem rs {X : Cx} {W : WX} {c m : Str} {j : Nat} {p p2 pos pos2 : Pos} (hc : X.calm = true) (tk : Takes X W) (x : XC X.K X.mg c) (hg : Gl X c) (hdb : (c == ("__debug__" : Str)) = false := by decide) :
    PS X (.Raise (some (.Call (.Name c p) [.Constant (.str m) j p2] [] pos)) none pos2) (fun _ σ H => W (.ref (ga X.K c)) none σ H) :=
  ps_raise hc tk (pmk_own PySem.F.excBase_ValueError x.q x.g x.k (raises_own x.b x.t) hg hdb)
/-! ### heaps -/
theorem same_upd {H : Hp} {p : Addr} {o : HO} (h : H p = none) : Same H (upd H p o) := fun b x e => by
  rw [upd_ne (ne_of_none e h)]
  exact e
theorem Same.seqT {K : PySem.W.Frag} {H H' : Hp} {a : Addr} {xs : List V} (e : Same H H') (h : SqT K H a xs) : SqT K H' a xs := by
  rcases h with (h | ⟨o, h⟩) | h
  · exact .inl (.inl (e _ _ h))
  · exact .inl (.inr ⟨o, e _ _ h⟩)
  · exact .inr h
/-- a new object: the heap behind is a letter -/
theorem newO {H : Hp} {o : HO} {Q : Addr → Hp → Prop} (h : ∀ p H', H p = none → Same H H' → H' p = some o → Q p H') : ∀ p, H p = none → Q p (upd H p o) := fun p hp => h p _ hp (same_upd hp) upd_same
theorem newV {H : Hp} {o : HO} {Q : V → Hp → Prop} (h : ∀ p H', H p = none → Same H H' → H' p = some o → Q (.ref p) H') : ∀ p, H p = none → Q (.ref p) (upd H p o) := fun p hp => h p _ hp (same_upd hp) upd_same
theorem ie {b : Bool} {A B : Prop} (h1 : b = true → A) (h2 : b = false → B) : if b = true then A else B := by
  cases b with
  | true => rw [if_pos rfl]; exact h1 rfl
  | false => rw [if_neg Bool.false_ne_true]; exact h2 rfl
theorem if_pos_of {b : Bool} {A B : Prop} (h : b = true) (a : A) : if b = true then A else B := by rw [if_pos h]; exact a
theorem if_neg_of {b : Bool} {A B : Prop} (h : b = false) (a : B) : if b = true then A else B := by rw [h, if_neg Bool.false_ne_true]; exact a
theorem small40 {n : Nat} (h : n ≤ 100000) : n ≤ sizeLine := Nat.le_trans h (by decide)
end EL
namespace EL
open PySem PySem.Spec PyProof.Rows L2 He
/-! ### the head: facts, defs and one more Bool -/
theorem xc_of {K : PySem.W.Frag} {mg : Str → Option Value} {x : Str} (g : mg x = some (.ref (ga K x))) (h : PySem.W.excIn K (ga K x) veBase "ValueError.__new__" = true ∧ PySem.W.keepIn K (.ref (ga K x)) = true ∧ PySem.W.subIn K (.ref (ga K x)) (.type "BaseException") = some true ∧
    PySem.W.typeIn K (.ref (ga K x)) = some (.type "type")) : XC K mg x := ⟨g, h.1, h.2.1, h.2.2.1, h.2.2.2⟩
theorem gv_int {mg : Str → Option Value} {x : Str} {i : Int} (h : ∃ t, mg x = some (.int i t)) : ∃ u, mg x = some u ∧ RelV (.int i) u := by
  obtain ⟨t, e⟩ := h
  exact ⟨_, e, t, rfl⟩
theorem gv_str {mg : Str → Option Value} {x z : Str} (h : ∃ t, mg x = some (.str z t)) : ∃ u, mg x = some u ∧ RelV (.str z) u := by
  obtain ⟨t, e⟩ := h
  exact ⟨_, e, t, rfl⟩
abbrev AlM : Type := AlD × Bool
def obsM (fa : List Fa) (fn : List DefD) (ex : PySem.W.Frag → Bool) (K : PySem.W.Frag) : AlM := (obsD fa fn K, ex K)
def obsMG (n : Nat) (fa : List Fa) (fn : List DefD) (ex : PySem.W.Frag → Bool) (g : Addr → Option Obj) : AlM := obsM fa fn ex (frG g (asD g n))
def valM (fn : List DefD) : AlM := (valD fn, true)
def hookM (n : Nat) (fa : List Fa) (fn : List DefD) (ex : PySem.W.Frag → Bool) : PySem.W.Hook where
  α := AlM
  obs := fun s => obsMG n fa fn ex s.heap.get?
  val := fun _ => valM fn
  says := fun _ h => ∃ K : PySem.W.Frag, K.In h ∧ SaysD fa fn K ∧ ex K = true
  of := fun _ _ e => ⟨_, frG_in, congrArg (fun z : AlM => z.1) e, congrArg (fun z : AlM => z.2) e⟩
  keeps := fun _ _ _ ⟨K, hK, c⟩ k => ⟨K, PySem.W.Frag.In.keeps hK k, c⟩
theorem obsMG_eq {n : Nat} {fa : List Fa} {fn : List DefD} {ex : PySem.W.Frag → Bool} {g : Addr → Option Obj} {s : Shared} (h : ∀ a, g a = s.heap.get? a) : obsMG n fa fn ex g = (hookM n fa fn ex).obs s := by
  have e : g = s.heap.get? := funext h
  rw [e] <;> rfl
end EL
namespace EL
open PySem PySem.Spec PyProof.Rows L2 He
/-! ### from a def's body to its Dn -/
section
variable {P : Program} {w : World} {K : PySem.W.Frag} {mg : Str → Option Value} {base : Heap} {CX : CXT} {k : Nat} {x : Str} {sp : Sp} {params : Arguments} {body : List Stmt} {scope : Scope} {dvs : List V} {fd : FuncData} {ps N : List Str}
theorem dnN (g : mg x = some (.ref (ga K x))) (F : FunD K x x params body scope [] [] (ga K x) fd)
    (hb : ∀ (kV doc pm : Value) (an : Option Addr) (cdv ct : Value) (us : List Value), us.length = ps.length → bindArgs (PySem.W.fnOf x x params body scope .none kV doc pm an cdv ct) ⟨us, []⟩ = pure (ps.zip us))
    (S : FnScope N ps scope) (len : ∀ vs H Q E, sp vs H Q E → vs.length = ps.length)
    (hbody : ∀ (cdv : Value) (A : Around) (outer : List Env) (s : Shared) (H : Hp) (vs : List V) (Q : VK) (E : XK), Room k (A.deeper (envOfC x scope s.heap.objs.size (ga K x) cdv)) → sp vs H Q E →
      ∃ t, PSs (cxOf CX P w K mg base N x scope (ga K x) cdv A outer s H E) body t ∧ t { nx := fun _ H' => Q .non H', rt := Q } (start N vs) H) : Dn P w K mg base CX (k + 1) x sp :=
  ⟨g, F.kp, ((F.ok S len hbody).raw (F.bindsN hb) .nil).imp fun vs H Q E h => by rw [List.append_nil]; exact h⟩
theorem Dn.mono {j : Nat} (D : Dn P w K mg base CX j x sp) (h : j ≤ k) : Dn P w K mg base CX k x sp := ⟨D.g, D.kp, D.r.mono h⟩
end
/-! ### data -/
inductive Kd where
  | non | bl | int | str | lst | tup | dct
  deriving DecidableEq
def kdN : Kd → String
  | .non => "NoneType"
  | .bl => "bool"
  | .int => "int"
  | .str => "str"
  | .lst => "list"
  | .tup => "tuple"
  | .dct => "dict"
def kd : PyData → Kd
  | .none => .non
  | .bool _ => .bl
  | .int _ => .int
  | .str _ => .str
  | .list _ => .lst
  | .tuple _ => .tup
  | .dict _ => .dct
def tyn (d : PyData) : String := kdN (kd d)
theorem SqL.ty {K : PySem.W.Frag} {H : Hp} {a : Addr} {xs : List V} (h : SqL K H a xs) : TyX K H (.ref a) (.type "list") := by
  rcases h with (h | ⟨o, h⟩) | ⟨o, its, n, h1, h2, _⟩
  · exact .base (.lst h)
  · exact .base (.frz h)
  · exact .kList h1 h2
theorem SqT.ty {K : PySem.W.Frag} {H : Hp} {a : Addr} {xs : List V} (h : SqT K H a xs) : TyX K H (.ref a) (.type "tuple") := by
  rcases h with (h | ⟨o, h⟩) | ⟨o, its, n, h1, h2, _⟩
  · exact .base (.tup h)
  · exact .fTuple h
  · exact .kTuple h1 h2
theorem Dp.ty {K : PySem.W.Frag} {H : Hp} {v : V} {d : PyData} (h : Dp K H v d) : TyX K H v (.type (tyn d)) := by
  cases h with
  | non => exact .base .non
  | bl b => exact .base (.bl b)
  | int i => exact .base (.int i)
  | str x => exact .base (.str x)
  | lst h _ => exact SqL.ty h
  | tup h _ => exact SqT.ty h
mutual
theorem Dp.same {K : PySem.W.Frag} {H H' : Hp} (s : Same H H') : ∀ {d : PyData} {v : V}, Dp K H v d → Dp K H' v d
  | _, _, .non => .non
  | _, _, .bl b => .bl b
  | _, _, .int i => .int i
  | _, _, .str x => .str x
  | _, _, .lst h a => .lst (s.seq h) (DpAll.same s a)
  | _, _, .tup h a => .tup (Same.seqT s h) (DpAll.same s a)
theorem DpAll.same {K : PySem.W.Frag} {H H' : Hp} (s : Same H H') : ∀ {ds : List PyData} {vs : List V}, DpAll K H vs ds → DpAll K H' vs ds
  | _, _, .nil => .nil
  | _, _, .cons a b => .cons (Dp.same s a) (DpAll.same s b)
end
theorem DpAll.length {K : PySem.W.Frag} {H : Hp} : ∀ {ds : List PyData} {vs : List V}, DpAll K H vs ds → vs.length = ds.length
  | _, _, .nil => rfl
  | _, _, .cons _ b => congrArg Nat.succ (DpAll.length b)
/-- isinstance's answers of data -/
def kIs (T k : Kd) : Bool := decide (k = T) || (decide (T = .int) && decide (k = .bl))
def isTy (T : Kd) (d : PyData) : Bool := kIs T (kd d)
theorem kit_k : ∀ T k : Kd, kitB (kdN k) (kdN T) = some (kIs T k) := by
  intro T k
  cases T <;> cases k <;> decide +kernel
theorem kit_d (K : PySem.W.Frag) (T : Kd) (d : PyData) : PySem.W.kitOne K (.type (tyn d)) (.type (kdN T)) = some (isTy T d) := kit_ty (kit_k T (kd d))
/-- a thing: data, or some object that is none of the five -/
inductive Th where
  | d (d : PyData)
  | o
def ThOk (K : PySem.W.Frag) (H : Hp) (v : V) : Th → Prop
  | .d d => Dp K H v d
  | .o => ∃ t, TyX K H v t ∧ ∀ T : Kd, PySem.W.kitOne K t (.type (kdN T)) = some false
def Th.is (T : Kd) : Th → Bool
  | Th.d x => isTy T x
  | Th.o => false
/-- its type and isinstance's answers -/
theorem ThOk.ty {K : PySem.W.Frag} {H : Hp} {v : V} {th : Th} (h : ThOk K H v th) : ∃ t, TyX K H v t ∧ ∀ T : Kd, PySem.W.kitOne K t (.type (kdN T)) = some (th.is T) := by
  cases th with
  | d d => exact ⟨_, Dp.ty h, fun T => kit_d K T d⟩
  | o => exact h
def isWholeT (th : Th) : Bool := th.is .int && !th.is .bl
def isWholeD : PyData → Bool
  | .int _ => true
  | _ => false
theorem isWholeT_d (d : PyData) : isWholeT (.d d) = isWholeD d := by cases d <;> rfl
def isValD : PyData → Bool
  | .tuple [.int a, .int b] => !decide (b < 1) && decide (cd a b = 1)
  | _ => false
def isValT : Th → Bool
  | Th.d x => isValD x
  | Th.o => false
end EL
namespace EL
open PySem PySem.Spec PyProof.Rows L2 He TL
/-! ### keywords alone -/
section
variable {K : PySem.W.Frag} {x qual : Str} {params : Arguments} {body : List Stmt} {scope : Scope} {dvs : List V} {kws : List (Str × V)} {f : Addr} {fd : FuncData} {ps : List Str}
theorem kbinds1 (F : FunD K x qual params body scope dvs kws f fd) (n : Nat) (ks : List Str) (g : {α : Type} → List α → List α → List α → List α) (hd : dvs ≠ [])
    (hrel : ∀ {vs ds zs : List V} {us its ws : List Value}, Vals vs us → Vals ds its → Vals zs ws → Vals (g vs ds zs) (g us its ws))
    (h : ∀ (T : Addr) (kV doc pm : Value) (an : Option Addr) (cdv ct : Value) (us its ws : List Value), us.length = n → its.length = dvs.length → ws.length = ks.length →
      ∃ k, bindArgs (PySem.W.fnOf x qual params body scope (.ref T) kV doc pm an cdv ct) ⟨us, ks.zip ws⟩ = seqItems? (.ref T) >>= k ∧ k (some its.toArray) = pure (ps.zip (g us its ws))) :
    ∃ its : List Value, KBn K fd ps n ks (fun us ws => g us its ws) (fun vs zs => g vs dvs zs) := by
  obtain ⟨oc, od, dV, kV, doc, pm, an, cdv, ct, osl, rfl, lk, hcd, hD, hK⟩ := F.ex
  rcases hD with ⟨e, _⟩ | ⟨_, T, o, its, m, rfl, lT, oT, rT⟩
  · exact absurd e hd
  · refine ⟨its, ⟨fun s us ws X h1 h2 => ?_, fun r rz => hrel r rT rz⟩⟩
    obtain ⟨k, e1, e2⟩ := h T kV doc pm an cdv ct us its ws h1 rT.length.symm h2
    refine BindsTo.of_looks fun M => ?_
    rw [e1]
    exact looks_items X lT oT (.of_pure e2)
end
section
variable {X : Cx} {CX : CXT} {k : Nat} {f : Addr} {fd : FuncData} {ps ks : List Str} {sp : Sp} {E : XK} {x : Str} {p pos : Pos} {kws : List Keyword} {tk : TA} {g : List Value → List Value → List Value} {gV : List V → List V → List V}
/-- f(k = v, ..) -/
theorem pe_callN0 (F : FnOk X.prog X.w X.K X.mg X.base CX k f fd ps sp) (hr : Room k X.A) (hg : Gl X x) (hm : X.mg x = some (.ref f)) (hk : PySem.W.keepIn X.K (.ref f) = true) (hb : KBn X.K fd ps 0 ks g gV) (hx : Passes CX X E)
    (hkw : PK X kws tk) (hall : (backToKw pos (keywordEach kws X.env)).all (·.1.isSome) = true := by rfl) (hks : (backToKw pos (keywordEach kws X.env)).filterMap (·.1) = ks := by rfl)
    (hdb : (x == ("__debug__" : Str)) = false := by decide) (hpl : ((backTo pos (starEach [] X.env)).any (·.1) || (backToKw pos (keywordEach kws X.env)).any (·.1.isNone)) = false := by rfl) :
    PE X (.Call (.Name x p) [] kws pos) (tCallN 0 ks.length sp gV E tNil tk) := by
  refine ⟨fun pins s σ H Q I h => ?_⟩
  refine wpAny_Call_Name_kw (ld_glob I hg hm ?_ hdb)
  refine PySem.W.callWith_KW0 (h₀ := X.base) I.ok.mod.kin hk hall ?_ hpl
  refine thn (hkw.run pos pins s σ H _ I h) fun ws s2 ⟨zs, H2, I2, rz, l1, l2, q2⟩ => ⟨I2.kIn, ?_⟩
  rw [hks]
  exact run_fnN (us := []) (vs := []) F hr hb hx I2 .nil rz rfl l2 q2
end
/-! ### texts of numbers -/
theorem str_nil (x : Str) : Str.empty ++ x = x := ext_tl (by rw [tl_append]; rfl)
theorem natDigits_len {n k : Nat} (hk : 0 < k) (h : n < 10 ^ k) : (numL n).length ≤ k := numL_len hk h
/-- the signs of an int -/
def intL (a : Int) : List Nat := if a < 0 then 45 :: numL a.natAbs else numL a.natAbs
theorem tl_int (a : Int) : tl (Str.ofString (toString a)) = intL a := by
  cases a with
  | ofNat n => exact tl_num n
  | negSucc n =>
    unfold intL
    rw [if_pos (by omega), tl_ofString]
    show ("-" ++ Nat.repr (n + 1)).toList.map Char.toNat = 45 :: numL (n + 1)
    rw [String.toList_append, List.map_append, Nat.toList_repr]
    rfl
theorem numL_len1000 {n : Nat} (h : n < 2 ^ 1000) : (numL n).length ≤ 1000 := numL_len (by decide) (Nat.lt_of_lt_of_le h (Nat.pow_le_pow_left (by decide) _))
theorem len_int {a : Int} (h : a.natAbs < 2 ^ 1000) : (Str.ofString (toString a)).length ≤ 1001 := by
  rw [len_tl, tl_int]
  have := numL_len1000 h
  unfold intL
  split
  · rw [List.length_cons]
    omega
  · omega
/-- what a text of digits is worth -/
def isDig (c : Nat) : Bool := decide (48 ≤ c) && decide (c ≤ 57)
def rdD (cs : List Nat) : Option Nat := if (1 ≤ cs.length ∧ cs.length ≤ 40) ∧ cs.all isDig = true ∧ ¬ (1 < cs.length ∧ cs.head? = some 48) then some (NumText.digitsVal cs) else none
def optV : Option Nat → V
  | none => .non
  | some n => .int n
/-- a text as value reads it -/
def rdP (cs : List Nat) : List Nat × Option (List Nat) := match par [47] [] cs with
  | none => (cs, none)
  | some (a, b) => (a, some b)
def rdB : Option (List Nat) → Option Nat
  | none => some 1
  | some u => match rdD u with
    | some b => if 2 ≤ b then some b else none
    | none => none
def rdF (below : Bool) : Option Nat → Option Nat → Option (Int × Int)
  | some b, some t => if (below && decide (t = 0)) || decide (Nat.gcd t b ≠ 1) then none else some (if below then -(t : Int) else (t : Int), (b : Int))
  | _, _ => none
def rdV (cs : List Nat) : Option (Int × Int) :=
  rdF (decide (cs.take 1 = [45])) (rdB (rdP (if decide (cs.take 1 = [45]) = true then cs.drop 1 else cs)).2) (rdD (rdP (if decide (cs.take 1 = [45]) = true then cs.drop 1 else cs)).1)
theorem par_split {s : Nat} : ∀ (cs acc a b : List Nat), par [s] acc cs = some (a, b) → acc ++ cs = a ++ s :: b
  | [], acc, a, b, h => by simp [par] at h
  | c :: r, acc, a, b, h => by
    by_cases e : c = s
    · subst e
      rw [par_hit (by simp [pre])] at h
      injection h with h
      injection h with h1 h2
      rw [← h1, ← h2]
      rfl
    · rw [par_miss (pre_of_head [] r e)] at h
      have := par_split r (acc ++ [c]) a b h
      rw [← this]
      simp
end EL
namespace EL
open PySem PySem.Spec PyProof.Rows L2 He TL
theorem tl_cut_to (z : Str) (k : Nat) : tl (cutS z none (some (k : Int))) = (tl z).take k := by
  show ((tl z).drop (HT.sIx z.length 0 none)).take (HT.sIx z.length z.length (some (k : Int)) - HT.sIx z.length 0 none) = (tl z).take k
  rw [HT.sIx_none, HT.sIx_nat, List.drop_zero, Nat.sub_zero, len_tl]
  by_cases h : k ≤ (tl z).length
  · rw [Nat.min_eq_left h]
  · rw [Nat.min_eq_right (by omega), List.take_length, List.take_of_length_le (by omega)]
theorem tl_cut_from (z : Str) (k : Nat) : tl (cutS z (some (k : Int)) none) = (tl z).drop k := by
  show ((tl z).drop (HT.sIx z.length 0 (some (k : Int)))).take (HT.sIx z.length z.length none - HT.sIx z.length 0 (some (k : Int))) = (tl z).drop k
  rw [HT.sIx_none, HT.sIx_nat, len_tl]
  by_cases h : k ≤ (tl z).length
  · rw [Nat.min_eq_left h, List.take_of_length_le (by rw [List.length_drop]; omega)]
  · rw [Nat.min_eq_right (by omega), List.drop_length, List.drop_of_length_le (by omega), List.take_nil]
theorem tl_digits : tl ("0123456789" : Str) = [48, 49, 50, 51, 52, 53, 54, 55, 56, 57] := by decide +kernel
theorem mem_digits (c : Nat) : decide (c ∈ tl ("0123456789" : Str)) = isDig c := by
  rw [tl_digits]
  unfold isDig
  rw [← Bool.decide_and]
  refine decide_eq_decide.mpr ?_
  simp only [List.mem_cons, List.not_mem_nil, or_false]
  omega
theorem str_one {c : Nat} {y : Str} {d : Nat} (hy : tl y = [d]) : decide (V.str ⟨#[c]⟩ = V.str y) = decide (c = d) := by
  refine decide_eq_decide.mpr ⟨fun e => ?_, fun e => ?_⟩
  · have e1 : (⟨#[c]⟩ : Str) = y := by injection e
    rw [← e1] at hy
    have h2 : [c] = [d] := hy
    injection h2
  · have e1 : (⟨#[c]⟩ : Str) = y := ext_tl (by rw [hy, e])
    rw [e1]
theorem allDigits_of {cs : List Nat} (h : cs.all isDig = true) : NumText.AllDigits cs := fun c hc => by
  have := List.all_eq_true.mp h c hc
  unfold isDig at this
  rw [Bool.and_eq_true, decide_eq_true_eq, decide_eq_true_eq] at this
  exact this
theorem str_eq_tl {x y : Str} : decide (V.str x = V.str y) = decide (tl x = tl y) := decide_eq_decide.mpr ⟨fun e => by injection e with e; rw [e], fun e => by rw [ext_tl e]⟩
/-- a statement, then the rest, with a word between them -/
def tMid (t u : TS) : TS := fun D σ H => ∃ Mid : L2.St → Hp → Prop, t { D with nx := Mid } σ H ∧ ∀ σ' H', Mid σ' H' → u D σ' H'
theorem pss_mid {X : Cx} {st : Stmt} {rest : List Stmt} {t u : TS} (h1 : PS X st t) (h2 : PSs X rest u) : PSs X (st :: rest) (tMid t u) := by
  refine ⟨fun pins s σ H D I h => ?_⟩
  obtain ⟨Mid, hm, hu⟩ := h
  refine wpAny_execs_cons (thn (h1.run pins s σ H { D with nx := Mid } I hm) fun f s1 q => ?_)
  cases f with
  | next =>
    obtain ⟨σ', H', I', q⟩ := q
    exact h2.run pins s1 σ' H' D I' (hu σ' H' q)
  | ret v => exact q
  | brk => exact q
  | cont => exact q
end EL
namespace EL
open PySem PySem.Spec PyProof.Rows L2 He TL
/-! ### more facts of K, as Bools -/
theorem exG {l : List Bool} {b : Bool} (m : l.all id = true) (i : Nat) (h : l[i]? = some b) : b = true := List.all_eq_true.mp m b (List.mem_of_getElem? h)
def excCB (K : PySem.W.Frag) (D : Addr) : Bool := eqO (PySem.W.findIn K (.ref D) "__getattribute__") (some (some (.builtin "BaseException.__getattribute__"))) && (eqO (PySem.W.findIn K (.ref D) "__getattr__") (some none) &&
  (decide (PySem.W.subIn K (.ref D) (.type "BaseException") = some true) && (PySem.W.hasDictIn K D && (eqO (PySem.W.findIn K (.ref D) "__class__") (some (some (.builtin "object.__class__"))) &&
  (eqO (PySem.W.specialIn K (.builtin "object.__class__") "__get__") (some (some (.builtin "getset_descriptor.__get__"))) && (decide (PySem.W.takesIn K (.builtin "object.__class__") = some true) && decide (PySem.W.mroIn K D (.type "object") = some true)))))))
theorem excCB_ok {K : PySem.W.Frag} {D : Addr} (h : excCB K D = true) : ExcC K D := by
  obtain ⟨h1, h⟩ := ba h
  obtain ⟨h2, h⟩ := ba h
  obtain ⟨h3, h⟩ := ba h
  obtain ⟨h4, h⟩ := ba h
  obtain ⟨h5, h⟩ := ba h
  obtain ⟨h6, h⟩ := ba h
  obtain ⟨h7, h8⟩ := ba h
  exact ⟨eqO_ok h1, eqO_ok h2, of_decide_eq_true h3, h4, eqO_ok h5, eqO_ok h6, of_decide_eq_true h7, of_decide_eq_true h8⟩
/-- isinstance(e, c), e the exception of the class at D that the suite holds -/
theorem call_isX {X : Cx} {a : Addr} {oe : Obj} {pn : List (Addr × Obj)} {cls : Value} {d : Option Addr} (D : Addr) (C : ExcC X.K D) (hz : Zc cls d oe) (hf : ∃ vs, oe.data = .fields vs) :
    CallR (X.suite a ((a, oe) :: pn)) (.builtin "isinstance") (fun xs H Q => cls = .ref D ∧ d = none ∧ rIsE X.K D a xs H Q) := by
  intro pins s σ H xs us Q I r h
  obtain ⟨rfl, rfl, h⟩ := h
  exact call_isE C hz hf pins s σ H xs us Q I r h
/-! ### the law's source of draws -/
/-- the list [cells, place, digits, state] -/
def Src (H : Hp) (p l : Addr) : Prop := ∃ (ns : List Int) (i : Nat) (c r : Int), H p = some (.lst [.ref l, .int i, .int c, .int r]) ∧ H l = some (.lst (ns.map V.int)) ∧ 0 ≤ c ∧ 0 ≤ r ∧ r < 2147483647
/-- all but p is as it was -/
def But (p : Addr) (H H' : Hp) : Prop := ∀ b o, H b = some o → b ≠ p → H' b = some o
theorem But.refl (p : Addr) (H : Hp) : But p H H := fun _ _ h _ => h
theorem But.trans {p : Addr} {H H1 H2 : Hp} (a : But p H H1) (b : But p H1 H2) : But p H H2 := fun c o h n => b c o (a c o h n) n
theorem But.of {p : Addr} {H H' : Hp} (s : Same H H') : But p H H' := fun b o h _ => s b o h
theorem but_upd {p : Addr} {H : Hp} {o : HO} : But p H (upd H p o) := fun b x h n => by rw [upd_ne n]; exact h
theorem Src.same {H H' : Hp} {p l : Addr} (s : Same H H') (h : Src H p l) : Src H' p l := by
  obtain ⟨ns, i, c, r, h1, h2, h3⟩ := h
  exact ⟨ns, i, c, r, s _ _ h1, s _ _ h2, h3⟩
theorem Src.lst {H : Hp} {p l : Addr} (h : Src H p l) : ∃ xs, H p = some (.lst xs) := by
  obtain ⟨ns, i, c, r, h1, _⟩ := h
  exact ⟨_, h1⟩
theorem Src.lst2 {H : Hp} {p l : Addr} (h : Src H p l) : ∃ xs, H l = some (.lst xs) := by
  obtain ⟨ns, i, c, r, h1, h2, _⟩ := h
  exact ⟨_, h2⟩
theorem Src.ne {H : Hp} {p l : Addr} (h : Src H p l) : l ≠ p := fun e => by
  obtain ⟨ns, i, c, r, h1, h2, _⟩ := h
  subst e
  rw [h1] at h2
  injection h2 with h2
  injection h2 with h2
  cases ns with
  | nil => cases h2
  | cons x r => injection h2 with h2; cases h2
/-- another thing changes -/
theorem Src.but {H H' : Hp} {p l x : Addr} (s : But x H H') (h : Src H p l) (h1 : p ≠ x) (h2 : l ≠ x) : Src H' p l := by
  obtain ⟨ns, i, c, r, k1, k2, h3⟩ := h
  exact ⟨ns, i, c, r, s _ _ k1 h1, s _ _ k2 h2, h3⟩
theorem But.seqT {K : PySem.W.Frag} {p a : Addr} {H H' : Hp} {xs : List V} (s : But p H H') (hp : ∃ ys, H p = some (.lst ys)) (h : SqT K H a xs) : SqT K H' a xs := by
  obtain ⟨ys, hp⟩ := hp
  rcases h with (h | ⟨o, h⟩) | h
  · exact .inl (.inl (s _ _ h (ne_of h hp (by intro z; cases z))))
  · exact .inl (.inr ⟨o, s _ _ h (ne_of h hp (by intro z; cases z))⟩)
  · exact .inr h
end EL
namespace EL
open PySem PySem.Spec PyProof.Rows L2 He TL
/-! ### a written value is read back -/
def txtV (a b : Int) : Str := if b = 1 then (toString a : String) else ((toString a : String) : Str) ++ "/" ++ ((toString b : String) : Str)
theorem numL_head {n : Nat} (h : 1 ≤ n) : (numL n).head? ≠ some 48 := by
  induction n using Nat.strongRecOn with
  | _ n ih =>
    by_cases h10 : n < 10
    · rw [numL_lt h10]
      intro e
      have e2 : 48 + n = 48 := Option.some.inj e
      omega
    · rw [numL_step (by omega)]
      have hh := ih (n / 10) (by omega) (by omega)
      cases hc : numL (n / 10) with
      | nil => exact absurd hc (numL_ne _)
      | cons x r =>
        rw [hc] at hh
        exact hh
theorem rdD_num {n : Nat} (h : n < 10 ^ 40) : rdD (numL n) = some n := by
  unfold rdD
  have hl : (numL n).length ≤ 40 := numL_len (by decide) h
  have h1 : 1 ≤ (numL n).length := by
    cases hc : numL n with
    | nil => exact absurd hc (numL_ne _)
    | cons x r => simp
  rw [if_pos, numL_val]
  refine ⟨⟨h1, hl⟩, ?_, ?_⟩
  · refine List.all_eq_true.mpr fun c hc => ?_
    have := numL_digits n c hc
    unfold isDig
    rw [Bool.and_eq_true, decide_eq_true_eq, decide_eq_true_eq]
    exact this
  · rintro ⟨h2, h3⟩
    by_cases h0 : n < 10
    · rw [numL_lt h0] at h2
      exact absurd h2 (Nat.lt_irrefl 1)
    · exact numL_head (by omega) h3
theorem tl_txtV (a b : Int) : tl (txtV a b) = if b = 1 then intL a else intL a ++ 47 :: intL b := by
  unfold txtV
  by_cases h : b = 1
  · rw [if_pos h, if_pos h]
    exact tl_int a
  · rw [if_neg h, if_neg h, tl_append, tl_append, tl_int, tl_int, show tl ("/" : Str) = [47] by decide +kernel, List.append_assoc]
    rfl
theorem numL_first (n : Nat) : (numL n).take 1 ≠ [45] := fun e => by
  have : (45 : Nat) ∈ (numL n).take 1 := by rw [e]; simp
  exact numL_free (n := n) (s := 45) (.inl (by decide)) (List.mem_of_mem_take this)
theorem numL_app_first (n : Nat) (r : List Nat) : (numL n ++ r).take 1 ≠ [45] := fun e => by
  cases hc : numL n with
  | nil => exact absurd hc (numL_ne _)
  | cons x q =>
    rw [hc] at e
    have := numL_first n
    rw [hc] at this
    exact this e
theorem rdP_num (n : Nat) : rdP (numL n) = (numL n, none) := by
  unfold rdP
  rw [par_none1 (numL_free (.inl (by decide)))]
theorem rdP_two (n m : Nat) : rdP (numL n ++ 47 :: numL m) = (numL n, some (numL m)) := by
  unfold rdP
  rw [show numL n ++ 47 :: numL m = numL n ++ ([47] ++ numL m) from rfl, par_part1 (numL_free (.inl (by decide)))]
  rfl
theorem rdV_txt {a b : Int} (h : Low a b) (ha : a.natAbs < 10 ^ 40) (hb : b.natAbs < 10 ^ 40) : rdV (tl (txtV a b)) = some (a, b) := by
  obtain ⟨hb0, hg⟩ := h
  have hg' : Nat.gcd a.natAbs b.natAbs = 1 := by unfold cd at hg; omega
  have hbL : intL b = numL b.natAbs := by
    unfold intL
    rw [if_neg (by omega)]
  -- the body behind the sign, by its parts
  have body : ∀ cs : List Nat, cs = (if b = 1 then numL a.natAbs else numL a.natAbs ++ 47 :: numL b.natAbs) → rdB (rdP cs).2 = some b.natAbs ∧ rdD (rdP cs).1 = some a.natAbs := by
    intro cs hcs
    by_cases h1 : b = 1
    · rw [if_pos h1] at hcs
      rw [hcs, rdP_num]
      refine ⟨?_, rdD_num ha⟩
      rw [h1]
      rfl
    · rw [if_neg h1] at hcs
      rw [hcs, rdP_two]
      refine ⟨?_, rdD_num ha⟩
      simp only [rdB, rdD_num hb]
      exact if_pos (by omega)
  rw [tl_txtV]
  unfold rdV
  by_cases hn : a < 0
  · have e : (if b = 1 then intL a else intL a ++ 47 :: intL b) = 45 :: (if b = 1 then numL a.natAbs else numL a.natAbs ++ 47 :: numL b.natAbs) := by
      unfold intL
      rw [if_pos hn, if_neg (show ¬ b < 0 by omega)]
      split <;> rfl
    rw [e]
    obtain ⟨e1, e2⟩ := body _ rfl
    rw [show decide ((45 :: (if b = 1 then numL a.natAbs else numL a.natAbs ++ 47 :: numL b.natAbs)).take 1 = [45]) = true from rfl, if_pos rfl, List.drop_one, List.tail_cons, e1, e2]
    show (if (true && decide (a.natAbs = 0) || decide (Nat.gcd a.natAbs b.natAbs ≠ 1)) = true then none else some (-(a.natAbs : Int), (b.natAbs : Int))) = _
    rw [if_neg]
    · rw [show -(a.natAbs : Int) = a by omega, show (b.natAbs : Int) = b by omega]
    · rw [decide_eq_false (show ¬ a.natAbs = 0 by omega), Bool.and_false, Bool.false_or]
      exact fun z => of_decide_eq_true z hg'
  · have e : (if b = 1 then intL a else intL a ++ 47 :: intL b) = (if b = 1 then numL a.natAbs else numL a.natAbs ++ 47 :: numL b.natAbs) := by
      unfold intL
      rw [if_neg hn, if_neg (show ¬ b < 0 by omega)]
    rw [e]
    have hf : (if b = 1 then numL a.natAbs else numL a.natAbs ++ 47 :: numL b.natAbs).take 1 ≠ [45] := by
      split
      · exact numL_first _
      · exact numL_app_first _ _
    obtain ⟨e1, e2⟩ := body _ rfl
    rw [decide_eq_false hf, if_neg Bool.false_ne_true, e1, e2]
    show (if (false && decide (a.natAbs = 0) || decide (Nat.gcd a.natAbs b.natAbs ≠ 1)) = true then none else some ((a.natAbs : Int), (b.natAbs : Int))) = _
    rw [if_neg]
    · rw [show (a.natAbs : Int) = a by omega, show (b.natAbs : Int) = b by omega]
    · rw [Bool.false_and, Bool.false_or]
      exact fun z => of_decide_eq_true z hg'
theorem nrm_abs (t b : Int) : (nrm t b).1.natAbs ≤ t.natAbs ∧ (nrm t b).2.natAbs ≤ b.natAbs := by
  have k : ∀ x g : Int, g ∣ x → (x / g).natAbs ≤ x.natAbs := fun x g h => by
    rw [Int.natAbs_ediv_of_dvd h]
    exact Nat.div_le_self _ _
  unfold nrm
  split
  · have h1 := k (-t) _ (cd_dvd_l (-t) (-b))
    have h2 := k (-b) _ (cd_dvd_r (-t) (-b))
    rw [Int.natAbs_neg] at h1 h2
    exact ⟨h1, h2⟩
  · exact ⟨k t _ (cd_dvd_l t b), k b _ (cd_dvd_r t b)⟩
theorem nrm_neg {t b : Int} (h : b < 0) : nrm (-t) (-b) = nrm t b := by
  unfold nrm
  rw [if_pos h, if_neg (by omega)]
end EL
namespace EL
open PySem PySem.Spec PyProof.Rows L2 He TL
/-! ### texts of values, the other way about -/
theorem digitsVal_snoc' (cs : List Nat) (d : Nat) : NumText.digitsVal (cs ++ [d]) = NumText.digitsVal cs * 10 + (d - 48) := by
  unfold NumText.digitsVal
  rw [List.foldl_append]
  rfl
theorem snoc_of {cs : List Nat} (h : cs ≠ []) : ∃ i d, cs = i ++ [d] := ⟨cs.dropLast, cs.getLast h, (List.dropLast_concat_getLast h).symm⟩
theorem numL_back : ∀ (k : Nat) (cs : List Nat), cs.length = k → cs ≠ [] → cs.all isDig = true → ¬ (1 < cs.length ∧ cs.head? = some 48) → numL (NumText.digitsVal cs) = cs ∧ (cs.head? ≠ some 48 → 1 ≤ NumText.digitsVal cs)
  | 0, cs, hk, hne, _, _ => absurd (List.length_eq_zero_iff.mp hk) hne
  | k + 1, cs, hk, hne, ha, hz => by
    obtain ⟨i, d, rfl⟩ := snoc_of hne
    rw [List.all_append, Bool.and_eq_true] at ha
    have hd : 48 ≤ d ∧ d ≤ 57 := by
      have := ha.2
      simp only [List.all_cons, List.all_nil, Bool.and_true, isDig, Bool.and_eq_true, decide_eq_true_eq] at this
      exact this
    rw [digitsVal_snoc']
    cases hi : i with
    | nil =>
      have e : NumText.digitsVal [] = 0 := rfl
      rw [e, Nat.zero_mul, Nat.zero_add, numL_lt (by omega)]
      refine ⟨?_, fun hh => ?_⟩
      · show [48 + (d - 48)] = [d]
        rw [show 48 + (d - 48) = d by omega]
      · have : d ≠ 48 := fun z => hh (by rw [z]; rfl)
        omega
    | cons x r =>
      have hl : i.length = k := by
        rw [List.length_append, List.length_singleton] at hk
        omega
      have hh : (i ++ [d]).head? = i.head? := by rw [hi]; rfl
      have h48 : i.head? ≠ some 48 := fun z => hz ⟨by rw [List.length_append, hi]; simp, by rw [hh]; exact z⟩
      obtain ⟨e1, e2⟩ := numL_back k i hl (by rw [hi]; simp) ha.1 (fun z => h48 z.2)
      have e3 := e2 h48
      rw [← hi]
      refine ⟨?_, fun _ => by omega⟩
      rw [numL_step (by omega), show (NumText.digitsVal i * 10 + (d - 48)) / 10 = NumText.digitsVal i by omega, show (NumText.digitsVal i * 10 + (d - 48)) % 10 = d - 48 by omega, e1, show 48 + (d - 48) = d by omega]
theorem rdD_inv {cs : List Nat} {n : Nat} (h : rdD cs = some n) : cs = numL n ∧ n < 10 ^ 40 := by
  unfold rdD at h
  split at h
  · rename_i c
    injection h with h
    have hne : cs ≠ [] := fun e => by rw [e] at c; exact absurd c.1.1 (by decide)
    have e := (numL_back cs.length cs rfl hne c.2.1 c.2.2).1
    rw [h] at e
    refine ⟨e.symm, ?_⟩
    have hl : (numL n).length ≤ 40 := by rw [e]; exact c.1.2
    exact Nat.lt_of_not_le fun hge => by
      have : ∀ (k m : Nat), 10 ^ k ≤ m → k + 1 ≤ (numL m).length := by
        intro k
        induction k with
        | zero =>
          intro m _
          cases hm : numL m with
          | nil => exact absurd hm (numL_ne _)
          | cons x r => simp
        | succ k ih =>
          intro m hm
          have h10 : 10 ≤ m := Nat.le_trans (by rw [Nat.pow_succ]; have : 0 < 10 ^ k := Nat.pow_pos (by decide); omega) hm
          rw [numL_step h10, List.length_append]
          have := ih (m / 10) ((Nat.le_div_iff_mul_le (by decide)).mpr (by rw [Nat.pow_succ] at hm; exact hm))
          simp only [List.length_singleton]
          omega
      have := this 40 n hge
      omega
  · cases h
theorem spl_par {s : Nat} : ∀ (cs acc : List Nat), spl [s] 0 acc cs = (match par [s] acc cs with | none => [acc ++ cs] | some (a, b) => a :: spl [s] 0 [] b)
  | [], acc => by
    rw [spl_nil]
    simp [par]
  | c :: r, acc => by
    by_cases e : c = s
    · subst e
      rw [spl_hit (by simp [pre]), par_hit (by simp [pre])]
      rfl
    · rw [spl_miss (pre_of_head [] r e), par_miss (pre_of_head [] r e), spl_par r (acc ++ [c])]
      cases par [s] (acc ++ [c]) r with
      | none => simp
      | some ab => rfl
theorem par_some {s : Nat} : ∀ (cs acc : List Nat), s ∈ cs → ∃ a b, par [s] acc cs = some (a, b)
  | [], _, h => by cases h
  | c :: r, acc, h => by
    by_cases e : c = s
    · subst e
      exact ⟨acc, r, by rw [par_hit (by simp [pre])]; rfl⟩
    · rw [par_miss (pre_of_head [] r e)]
      exact par_some r _ (by
        rcases List.mem_cons.mp h with z | z
        · exact absurd z.symm e
        · exact z)
theorem rdD_free {cs : List Nat} (h : 47 ∈ cs) : rdD cs = none := by
  unfold rdD
  refine if_neg fun c => ?_
  have := List.all_eq_true.mp c.2.1 47 h
  exact absurd this (by decide)
/-- what read_value takes, text_of writes -/
theorem rdV_inv {cs : List Nat} {a b : Int} (h : rdV cs = some (a, b)) : tl (txtV a b) = cs ∧ Low a b ∧ a.natAbs < 10 ^ 40 ∧ b.natAbs < 10 ^ 40 := by
  unfold rdV at h
  generalize hbd : (if decide (cs.take 1 = [45]) = true then cs.drop 1 else cs) = bd at h
  cases hB : rdB (rdP bd).2 with
  | none =>
    rw [hB] at h
    cases h
  | some n =>
    cases hD : rdD (rdP bd).1 with
    | none =>
      rw [hB, hD] at h
      cases h
    | some m =>
      rw [hB, hD] at h
      generalize hbl : decide (cs.take 1 = [45]) = below at *
      have h' : (if (below && decide (m = 0) || decide (Nat.gcd m n ≠ 1)) = true then none else some (if below then -(m : Int) else (m : Int), (n : Int))) = some (a, b) := h
      split at h'
      · cases h'
      · rename_i c
        injection h' with h'
        injection h' with ea eb
        have hg : Nat.gcd m n = 1 := by
          cases hd : decide (Nat.gcd m n ≠ 1) with
          | true => rw [hd, Bool.or_true] at c; exact absurd rfl c
          | false => exact Decidable.not_not.mp (of_decide_eq_false hd)
        have hbz : below = true → m ≠ 0 := fun hb z => by
          rw [hb, z] at c
          exact c rfl
        obtain ⟨e1, m40⟩ := rdD_inv hD
        -- the body
        have body : bd = (if n = 1 then numL m else numL m ++ 47 :: numL n) ∧ 1 ≤ n ∧ n < 10 ^ 40 := by
          unfold rdP at hB e1
          cases hp : par [47] [] bd with
          | none =>
            rw [hp] at hB e1
            have en : 1 = n := Option.some.inj hB
            rw [if_pos en.symm]
            exact ⟨e1, by omega, by rw [← en]; decide⟩
          | some xy =>
            obtain ⟨x, y⟩ := xy
            rw [hp] at hB e1
            have hB' : (match rdD y with | some b => if 2 ≤ b then some b else none | none => none) = some n := hB
            cases hy : rdD y with
            | none =>
              rw [hy] at hB'
              cases hB'
            | some k =>
              rw [hy] at hB'
              have hB2 : (if 2 ≤ k then some k else none) = some n := hB'
              split at hB2
              · injection hB2 with hk
                subst hk
                obtain ⟨e2, k40⟩ := rdD_inv hy
                rw [if_neg (by omega)]
                have e3 : x = numL m := e1
                refine ⟨?_, by omega, k40⟩
                rw [← e3, ← e2]
                exact (par_split _ _ _ _ hp)
              · cases hB2
        obtain ⟨hbody, hn1, n40⟩ := body
        have hcs : cs = if below = true then 45 :: bd else bd := by
          cases below with
          | true =>
            have ht := of_decide_eq_true hbl
            rw [if_pos rfl] at hbd ⊢
            rw [← hbd, ← List.singleton_append, ← ht, List.take_append_drop]
          | false =>
            rw [if_neg Bool.false_ne_true] at hbd ⊢
            exact hbd
        have ebn : b.natAbs = n := by omega
        have eam : a.natAbs = m := by
          rw [← ea]
          split <;> omega
        refine ⟨?_, ⟨by omega, ?_⟩, by omega, by omega⟩
        · rw [tl_txtV, hcs, hbody]
          have hb1 : (b = 1) ↔ (n = 1) := by omega
          have hib : intL b = numL n := by
            unfold intL
            rw [if_neg (by omega), ebn]
          have hia : intL a = if below = true then 45 :: numL m else numL m := by
            unfold intL
            rw [eam]
            cases hbe : below with
            | true =>
              rw [hbe] at ea hbz
              have hm := hbz rfl
              rw [if_pos rfl] at ea ⊢
              rw [if_pos (by omega)]
            | false =>
              rw [hbe] at ea
              rw [if_neg Bool.false_ne_true] at ea ⊢
              rw [if_neg (by omega)]
          rw [hia, hib]
          by_cases h1 : n = 1
          · rw [if_pos h1, if_pos (hb1.mpr h1)]
          · rw [if_neg h1, if_neg (fun z => h1 (hb1.mp z))]
            cases below <;> rfl
        · unfold cd
          rw [eam, ebn, hg]
          rfl
theorem call_str_bool {X : Cx} : CallR X (.type "str") (fun xs H Q => ∃ b : Bool, xs = [.bl b] ∧ Q (.str (if b then "True" else "False")) H) := by
  intro pins s σ H xs us Q I r h
  obtain ⟨b, rfl, q⟩ := h
  obtain ⟨u, rfl, ru⟩ := vals1 r
  cases ru
  exact PySem.P.str_of_bool ⟨.str _, H, I.tok _, ⟨_, rfl⟩, q⟩
end EL
namespace EL
open PySem PySem.Spec PyProof.Rows L2 He TL ClX
/-! ### the head with defs at any address -/
def fnWA (K : PySem.W.Frag) (a : Addr) : FnW := match K.lookup a with
  | some ⟨_, _, .func fd, _⟩ => some (fd.name, fd.qualname, fd.params, fd.body, fd.scope, fd.globals, fd.closure, fd.builtins)
  | _ => none
structure DefE where
  ad : PySem.W.Frag → Addr
  name : Str
  qual : Str
  params : Arguments
  body : List Stmt
  scope : Scope
  dfl : List Dv := []
def DefE.val (d : DefE) : FnW := some (d.name, d.qual, d.params, .stmts d.body, d.scope, mainGlobals, [], builtinsNs)
def DefE.dvs (K : PySem.W.Frag) (d : DefE) : List V := d.dfl.map (Dv.v K)
def DefE.ok (K : PySem.W.Frag) (d : DefE) : Bool := PySem.W.keepIn K (.ref (d.ad K)) && (match K.lookup (d.ad K) with
  | some ⟨_, _, .func fd, _⟩ => PySem.W.codeIn K fd.code d.qual && dflB K fd.defaults (d.dvs K)
  | _ => false)
theorem DefE.funD {K : PySem.W.Frag} {d : DefE} (e : fnWA K (d.ad K) = d.val) (c : d.ok K = true) : ∃ fd, FunD K d.name d.qual d.params d.body d.scope (d.dvs K) [] (d.ad K) fd := by
  obtain ⟨kp, c2⟩ := ba c
  unfold fnWA at e
  cases q : K.lookup (d.ad K) with
  | none =>
    rw [q] at c2
    cases c2
  | some o =>
    obtain ⟨oc, od, dt, osl⟩ := o
    rw [q] at c2 e
    cases dt with
    | func fd =>
      obtain ⟨n1, n2, n3, n4, n5, n6, n7, n8, n9, n10, n11, n12, n13, n14, n15⟩ := fd
      have e2 : (some (n1, n2, n3, n4, n5, n6, n7, n15) : FnW) = some (d.name, d.qual, d.params, .stmts d.body, d.scope, mainGlobals, [], builtinsNs) := e
      simp only [Option.some.injEq, Prod.mk.injEq] at e2
      obtain ⟨h1, h2, h3, h4, h5, h6, h7, h8⟩ := e2
      subst h1 h2 h3 h4 h5 h6 h7 h8
      have c3 : (PySem.W.codeIn K n13 d.qual && dflB K n8 (d.dvs K)) = true := c2
      obtain ⟨k1, k3⟩ := ba c3
      exact ⟨_, ⟨oc, od, n8, n9, n10, n11, n12, n13, n14, osl, rfl, q, k1, dflB_ok k3, .inl rfl⟩, kp⟩
    | _ => cases c2
def obsE (fa : List Fa) (fn : List DefE) (ex : PySem.W.Frag → Bool) (K : PySem.W.Frag) : AlM := (((fa.all fun f => f.ok K) && fn.all fun d => d.ok K, fn.map fun d => fnWA K (d.ad K)), ex K)
def obsEG (n : Nat) (fa : List Fa) (fn : List DefE) (ex : PySem.W.Frag → Bool) (g : Addr → Option Obj) : AlM := obsE fa fn ex (frG g (He5.asA g n))
def valE (fn : List DefE) : AlM := ((true, fn.map DefE.val), true)
def SaysE (fa : List Fa) (fn : List DefE) (ex : PySem.W.Frag → Bool) (K : PySem.W.Frag) : Prop := obsE fa fn ex K = valE fn
def hookE (n : Nat) (fa : List Fa) (fn : List DefE) (ex : PySem.W.Frag → Bool) : PySem.W.Hook where
  α := AlM
  obs := fun s => obsEG n fa fn ex s.heap.get?
  val := fun _ => valE fn
  says := fun _ h => ∃ K : PySem.W.Frag, K.In h ∧ SaysE fa fn ex K
  of := fun _ _ e => ⟨_, frG_in, e⟩
  keeps := fun _ _ _ ⟨K, hK, c⟩ k => ⟨K, PySem.W.Frag.In.keeps hK k, c⟩
theorem obsEG_eq {n : Nat} {fa : List Fa} {fn : List DefE} {ex : PySem.W.Frag → Bool} {g : Addr → Option Obj} {s : Shared} (h : ∀ a, g a = s.heap.get? a) : obsEG n fa fn ex g = (hookE n fa fn ex).obs s := by
  have e : g = s.heap.get? := funext h
  rw [e] <;> rfl
section
variable {fa : List Fa} {fn : List DefE} {ex : PySem.W.Frag → Bool} {K : PySem.W.Frag}
theorem SaysE.fact (c : SaysE fa fn ex K) (i : Nat) {f : Fa} (h : fa[i]? = some f := by rfl) : f.ok K = true := by
  have c1 := (ba (show ((fa.all fun f => f.ok K) && fn.all fun d => d.ok K) = true from congrArg (fun z : AlM => z.1.1) c)).1
  exact List.all_eq_true.mp c1 f (List.mem_of_getElem? h)
theorem SaysE.ex_ (c : SaysE fa fn ex K) : ex K = true := congrArg (fun z : AlM => z.2) c
theorem SaysE.def_ (c : SaysE fa fn ex K) (i : Nat) {d : DefE} (h : fn[i]? = some d := by rfl) : ∃ fd, FunD K d.name d.qual d.params d.body d.scope (d.dvs K) [] (d.ad K) fd := by
  have c2 := (ba (show ((fa.all fun f => f.ok K) && fn.all fun d => d.ok K) = true from congrArg (fun z : AlM => z.1.1) c)).2
  have e : fn.map (fun d => fnWA K (d.ad K)) = fn.map DefE.val := congrArg (fun z : AlM => z.1.2) c
  have e2 : (fn.map fun d => fnWA K (d.ad K))[i]? = (fn.map DefE.val)[i]? := by rw [e]
  rw [List.getElem?_map, List.getElem?_map, h] at e2
  exact DefE.funD (Option.some.inj e2) (List.all_eq_true.mp c2 d (List.mem_of_getElem? h))
end
/-! ### own classes -/
def kdL : List Kd := [.non, .bl, .int, .str, .lst, .tup, .dct]
theorem kdL_all (T : Kd) : T ∈ kdL := by cases T <;> decide
/-- what of the text an own class has -/
structure OC (K : PySem.W.Frag) (C : Addr) : Prop where
  cl : Cls K C
  ca : PySem.W.findIn K (.ref C) "__class__" = some (some (.builtin "object.__class__"))
  hn : PySem.W.specialIn K (.builtin "object.__class__") "__get__" = some (some (.builtin "getset_descriptor.__get__"))
  tk : PySem.W.takesIn K (.builtin "object.__class__") = some true
  ob : PySem.W.mroIn K C (.type "object") = some true
  to : ∀ T : Kd, PySem.W.kitOne K (.ref C) (.type (kdN T)) = some false
  of : ∀ T : Kd, PySem.W.kitOne K (.type (kdN T)) (.ref C) = some false
  self : PySem.W.kitOne K (.ref C) (.ref C) = some true
def ocB (K : PySem.W.Frag) (C : Addr) : Bool := (PySem.W.plainGet K C Str.empty && (PySem.W.hasDictIn K C && (PySem.W.plainOver K C && eqO (PySem.W.findIn K (.ref C) "__setattr__") (some (some (.builtin "object.__setattr__")))))) &&
  (eqO (PySem.W.findIn K (.ref C) "__class__") (some (some (.builtin "object.__class__"))) && (eqO (PySem.W.specialIn K (.builtin "object.__class__") "__get__") (some (some (.builtin "getset_descriptor.__get__"))) &&
  (decide (PySem.W.takesIn K (.builtin "object.__class__") = some true) && (decide (PySem.W.mroIn K C (.type "object") = some true) && ((kdL.all fun T => decide (PySem.W.kitOne K (.ref C) (.type (kdN T)) = some false)) &&
  ((kdL.all fun T => decide (PySem.W.kitOne K (.type (kdN T)) (.ref C) = some false)) && decide (PySem.W.kitOne K (.ref C) (.ref C) = some true)))))))
theorem ocB_ok {K : PySem.W.Frag} {C : Addr} (h : ocB K C = true) : OC K C := by
  obtain ⟨h1, h⟩ := ba h
  obtain ⟨a1, h1⟩ := ba h1
  obtain ⟨a2, h1⟩ := ba h1
  obtain ⟨a3, a4⟩ := ba h1
  obtain ⟨h2, h⟩ := ba h
  obtain ⟨h3, h⟩ := ba h
  obtain ⟨h4, h⟩ := ba h
  obtain ⟨h5, h⟩ := ba h
  obtain ⟨h6, h⟩ := ba h
  obtain ⟨h7, h8⟩ := ba h
  exact ⟨⟨a1, a2, a3, eqO_ok a4⟩, eqO_ok h2, eqO_ok h3, of_decide_eq_true h4, of_decide_eq_true h5, fun T => of_decide_eq_true (List.all_eq_true.mp h6 T (kdL_all T)), fun T => of_decide_eq_true (List.all_eq_true.mp h7 T (kdL_all T)), of_decide_eq_true h8⟩
theorem OC.ty {K : PySem.W.Frag} {C : Addr} (c : OC K C) {H : Hp} {a dx : Addr} {fs : List (Str × V)} (h : H a = some (.ins C dx fs)) : TyX K H (.ref a) (.ref C) := .base (.ins h c.cl c.ca c.hn c.tk c.ob)
/-- an instance as a thing -/
theorem OC.th {K : PySem.W.Frag} {C : Addr} (c : OC K C) {H : Hp} {a dx : Addr} {fs : List (Str × V)} (h : H a = some (.ins C dx fs)) : ThOk K H (.ref a) .o := ⟨.ref C, c.ty h, c.to⟩
theorem OC.isD {K : PySem.W.Frag} {C : Addr} (c : OC K C) (d : PyData) : PySem.W.kitOne K (.type (tyn d)) (.ref C) = some false := c.of (kd d)
/-! ### calls of methods, of static methods; making -/
def tMethE (C : Addr) (m : Str) (sp : Sp) (E : L2.St → XK) (ta : TE) (t : TA) : TE := fun σ H Q => ta σ H fun x H1 => ∃ a dx fs, x = .ref a ∧ H1 a = some (.ins C dx fs) ∧ fs.lookup m = none ∧ t σ H1 fun vs H2 => sp (x :: vs) H2 Q (E σ)
def tMakeE (C : Addr) (sp : Sp) (E : L2.St → XK) (t : TA) : TE := fun σ H Q => t σ H fun vs H1 => ∀ x dx, H1 x = Option.none → H1 dx = Option.none → dx ≠ x →
  sp (V.ref x :: vs) (upd (upd H1 dx (.own x)) x (.ins C dx [])) (fun v H2 => v = .non ∧ Q (.ref x) H2) (E σ)
def tSm (C : Addr) (sp : Sp) (E : L2.St → XK) (ta : TE) (t : TA) : TE := fun σ H Q => ta σ H fun x H1 => x = .ref C ∧ t σ H1 fun vs H2 => sp vs H2 Q (E σ)
structure Sm (K : PySem.W.Frag) (C : Addr) (m : Str) (f : Addr) : Prop where
  rd : CRead K C (.type "type")
  at_ : ∃ p, PySem.W.findCls K (.ref C) (.type "type") m = some (.get (.builtin "staticmethod.__get__") (.ref p) .none (.ref C)) ∧ ∃ rest, PySem.W.recIn K p "staticmethod" = some (.ref f :: rest)
  kp : PySem.W.keepIn K (.ref f) = true
def smB (K : PySem.W.Frag) (C : Addr) (m : Str) : Bool := PySem.W.readsIn K C (.type "type") && (eqO (PySem.W.specialIn K (.ref C) "__getattribute__") (some (some (.builtin "type.__getattribute__"))) &&
  (He5.wrapB K C "staticmethod" "staticmethod.__get__" m && PySem.W.keepIn K (.ref (He5.wf K C "staticmethod" m))))
theorem smB_ok {K : PySem.W.Frag} {C : Addr} {m : Str} (h : smB K C m = true) : Sm K C m (He5.wf K C "staticmethod" m) := by
  obtain ⟨h1, h⟩ := ba h
  obtain ⟨h2, h⟩ := ba h
  obtain ⟨h3, h4⟩ := ba h
  obtain ⟨k1, k2⟩ := He5.wrapB_ok h3
  exact ⟨⟨h1, eqO_ok h2⟩, ⟨_, k1, k2⟩, h4⟩
section
variable {X : Cx} {CX : CXT} {k : Nat} {C f : Addr} {m x : Str} {sp : Sp} {E : L2.St → XK} {o e : Expr} {es : List Expr} {ta : TE} {t : TA} {p apos pos : Pos} {pl : Sem Bool}
theorem pe_methE (he : PE X o ta) (c : Cls X.K C) (hm : Meth X.K C m f) (F : FnR X.prog X.w X.K X.mg X.base CX k f sp) (hr : Room k X.A) (hx : ∀ σ, PassesAt CX X σ (E σ)) (ha : PA X (e :: es) t)
    (hst : starEach (e :: es) X.env = (false, eval e X.env) :: starEach es X.env := by rfl) (hpl : (backTo pos (starEach es X.env)).any (·.1) = false := by rfl)
    (ht : eval (.Call (.Attribute o m apos) (e :: es) [] pos) X.env = (do
      let ov ← eval o X.env
      standAt apos.atName
      let (f, first) ← holding [ov] (getMethod ov m pl)
      callWith pos f first (backTo pos (starEach (e :: es) X.env)) (backToKw pos (keywordEach [] X.env))) := by rfl) :
    PE X (.Call (.Attribute o m apos) (e :: es) [] pos) (tMethE C m sp E ta t) := by
  refine ⟨fun pins s σ H Q I h => ?_⟩
  refine PySem.W.methodCall_KW (pl := pl) (thn (he.run pins s σ H _ I h) fun u s1 ⟨x, H1, I1, rx, a, dx, fs, ex, ea, l, q⟩ => ?_) ht
  subst ex
  obtain rfl : u = Value.ref a := rx
  refine getmeth_ok I1 ea c hm l ?_
  refine PySem.W.callWith_K (first := [.ref a]) (h₀ := X.base) I.ok.mod.kin hm.kp (thn (ha.run pos pins s1 σ H1 _ I1 q) fun us s2 ⟨vs, H2, I2, r, q2⟩ => ⟨I2.kIn, ?_⟩) hst hpl
  exact run_fnRS (us := .ref a :: us) (vs := .ref a :: vs) F hr (hx σ) I2 (.cons rfl r) q2
theorem pe_methE0 (he : PE X o ta) (c : Cls X.K C) (hm : Meth X.K C m f) (F : FnR X.prog X.w X.K X.mg X.base CX k f sp) (hr : Room k X.A) (hx : ∀ σ, PassesAt CX X σ (E σ))
    (ht : eval (.Call (.Attribute o m apos) [] [] pos) X.env = (do
      let ov ← eval o X.env
      standAt apos.atName
      let (f, first) ← holding [ov] (getMethod ov m pl)
      callWith pos f first (backTo pos (starEach [] X.env)) (backToKw pos (keywordEach [] X.env))) := by rfl) :
    PE X (.Call (.Attribute o m apos) [] [] pos) (tMethE C m sp E ta tNil) := by
  refine ⟨fun pins s σ H Q I h => ?_⟩
  refine PySem.W.methodCall_KW (pl := pl) (thn (he.run pins s σ H _ I h) fun u s1 ⟨x, H1, I1, rx, a, dx, fs, ex, ea, l, q⟩ => ?_) ht
  subst ex
  obtain rfl : u = Value.ref a := rx
  refine getmeth_ok I1 ea c hm l ?_
  exact PySem.W.callWith_K0 (first := [.ref a]) I1.kIn hm.kp (run_fnRS (us := [.ref a]) (vs := [.ref a]) F hr (hx σ) I1 (.cons rfl .nil) q)
theorem pe_smE (he : PE X o ta) (c : Sm X.K C m f) (F : FnR X.prog X.w X.K X.mg X.base CX k f sp) (hr : Room k X.A) (hx : ∀ σ, PassesAt CX X σ (E σ)) (ha : PA X (e :: es) t)
    (hst : starEach (e :: es) X.env = (false, eval e X.env) :: starEach es X.env := by rfl) (hpl : (backTo pos (starEach es X.env)).any (·.1) = false := by rfl)
    (ht : eval (.Call (.Attribute o m apos) (e :: es) [] pos) X.env = (do
      let ov ← eval o X.env
      standAt apos.atName
      let (f, first) ← holding [ov] (getMethod ov m pl)
      callWith pos f first (backTo pos (starEach (e :: es) X.env)) (backToKw pos (keywordEach [] X.env))) := by rfl) :
    PE X (.Call (.Attribute o m apos) (e :: es) [] pos) (tSm C sp E ta t) := by
  refine ⟨fun pins s σ H Q I h => ?_⟩
  refine PySem.W.methodCall_KW (pl := pl) (thn (he.run pins s σ H _ I h) fun u s1 ⟨x, H1, I1, rx, ex, q⟩ => ?_) ht
  subst ex
  obtain rfl : u = Value.ref C := rx
  obtain ⟨pa, h1, rest, h2⟩ := c.at_
  refine PySem.W.method_cls I1.kIn c.rd.ga (PySem.W.cls_bind I1.kIn c.rd.rd h1 ?_)
  refine wpAny_call (PySem.W.sm_get (s := { s1 with toks := s1.toks + 1 }) I1.kIn h2 (PySem.W.handed_on rfl ?_))
  have I2 := I1.tok (s1.toks + 1)
  refine PySem.W.callWith_K (first := []) (h₀ := X.base) I.ok.mod.kin c.kp (thn (ha.run pos pins _ σ H1 _ I2 q) fun us s2 ⟨vs, H2, I3, r, q2⟩ => ⟨I3.kIn, ?_⟩) hst hpl
  exact run_fnRS (us := us) (vs := vs) F hr (hx σ) I3 r q2
theorem run_makeE {pins : List (Addr × Obj)} {σ : L2.St} {H : Hp} {s : Shared} {Q : VK} {us : List Value} {vs : List V} (M : Mk X.K C f) (F : FnR X.prog X.w X.K X.mg X.base CX k f sp) (hr : Room (k + 1) X.A) (hx : PassesAt CX X σ (E σ)) (I : Inv X pins σ H s) (r : Vals vs us)
    (h : ∀ x dx, H x = Option.none → H dx = Option.none → dx ≠ x → sp (V.ref x :: vs) (upd (upd H dx (.own x)) x (.ins C dx [])) (fun v H2 => v = .non ∧ Q (.ref x) H2) (E σ)) :
    wpAny (model X.prog X.w) X.A (call (.ref C) us) (EP X pins σ Q) X.xe s := by
  have hq := h (s.heap.objs.size + 1) s.heap.objs.size (I.hok.fresh (Nat.le_succ _)) (I.hok.fresh (Nat.le_refl _)) (Nat.ne_of_lt (Nat.lt_succ_self _))
  have I2 := Inv.made (C := C) I
  have r2 : Vals (V.ref (s.heap.objs.size + 1) :: vs) (Value.ref (s.heap.objs.size + 1) :: us) := .cons rfl r
  refine wpAny_call (make_map (f := f) I.kIn M.makes M.init (beq_iff_eq.mp M.fn) (codeAny_mono (F _ X.stack _ _ (Value.ref (s.heap.objs.size + 1) :: us) _ _ (E σ) (hr.make C us []) (I2.env0.make C us []) r2 hq) fun r s' hq' => ?_))
  cases r with
  | error e => exact hx pins _ _ e s' I2 hq'
  | ok fl =>
    cases fl with
    | ret u =>
      obtain ⟨v, H', I3, rv, ev, q3⟩ := I2.after hq'
      subst ev
      exact ⟨rv, ⟨V.ref (s.heap.objs.size + 1), H', I3, rfl, q3⟩⟩
    | next => exact False.elim hq'
    | brk => exact False.elim hq'
    | cont => exact False.elim hq'
theorem pe_makeE (M : Mk X.K C f) (F : FnR X.prog X.w X.K X.mg X.base CX k f sp) (hr : Room (k + 1) X.A) (hm : X.mg x = some (.ref C)) (hx : ∀ σ, PassesAt CX X σ (E σ)) (ha : PA X (e :: es) t) (hg : Gl X x := by rfl) (hdb : (x == ("__debug__" : Str)) = false := by decide)
    (he : starEach (e :: es) X.env = (false, eval e X.env) :: starEach es X.env := by rfl) (hpl : (backTo pos (starEach es X.env)).any (·.1) = false := by rfl) : PE X (.Call (.Name x p) (e :: es) [] pos) (tMakeE C sp E t) := by
  refine ⟨fun pins s σ H Q I h => ?_⟩
  refine wpAny_Call_Name_kw (ld_glob I hg hm ?_ hdb)
  refine PySem.W.callWith_K (h₀ := X.base) I.ok.mod.kin M.kp (thn (ha.run pos pins s σ H _ I h) fun us s1 ⟨vs, H1, I1, r, q⟩ => ⟨I1.kIn, ?_⟩) he hpl
  exact run_makeE M F hr (hx σ) I1 r q
end
/-- nothing is let out -/
theorem px0 {X : Cx} : ∀ σ, PassesAt CX0 X σ ((fun _ => E0) σ) := fun _ _ _ _ _ _ _ h => h.elim
theorem pxq {X : Cx} : ∀ σ, PassesAt (L2.CX X.prog X.w) X σ ((fun _ => E0) σ) := fun σ pins H s e s' I h => passL pins σ H s e s' I h
theorem pxx {X : Cx} {W : WX} (tk : Takes X W) : ∀ σ, PassesAt (L2.CX X.prog X.w) X σ (WE W σ) := fun σ => passAt tk σ
/-! from a def's body to its promise, wherever it stands -/
section
variable {P : Program} {w : World} {K : PySem.W.Frag} {mg : Str → Option Value} {base : Heap} {CX : CXT} {k : Nat} {x qual : Str} {sp : Sp} {params : Arguments} {body : List Stmt} {scope : Scope} {f : Addr} {fd : FuncData} {ps N : List Str}
theorem fnN (F : FunD K x qual params body scope [] [] f fd)
    (hb : ∀ (kV doc pm : Value) (an : Option Addr) (cdv ct : Value) (us : List Value), us.length = ps.length → bindArgs (PySem.W.fnOf x qual params body scope .none kV doc pm an cdv ct) ⟨us, []⟩ = pure (ps.zip us))
    (S : FnScope N ps scope) (len : ∀ vs H Q E, sp vs H Q E → vs.length = ps.length)
    (hbody : ∀ (cdv : Value) (A : Around) (outer : List Env) (s : Shared) (H : Hp) (vs : List V) (Q : VK) (E : XK), Room k (A.deeper (envOfC qual scope s.heap.objs.size f cdv)) → sp vs H Q E →
      ∃ t, PSs (cxOf CX P w K mg base N qual scope f cdv A outer s H E) body t ∧ t { nx := fun _ H' => Q .non H', rt := Q } (start N vs) H) : FnR P w K mg base CX (k + 1) f sp :=
  ((F.ok S len hbody).raw (F.bindsN hb) .nil).imp fun vs H Q E h => by rw [List.append_nil]; exact h
end
end EL
namespace K03
open PySem PySem.Spec PyProof.Rows L2 He TL EL
def topS (i : Nat) : Stmt := PySem.Challenge.pw_endlessasks_k03_terms_and_atoms.main.body.getD i (.Pass ⟨0, 0, 0, 0⟩)
abbrev s__wall : Stmt := (topS 0)
abbrev s_is_whole : Stmt := (topS 9)
abbrev s_common_divisor : Stmt := (topS 10)
abbrev s_is_value : Stmt := (topS 11)
abbrev s_is_term : Stmt := (topS 15)
abbrev s_is_atom : Stmt := (topS 16)
abbrev s_Cell___init__ : Stmt := (inClass (topS 18) 0)
abbrev s_Cell_term : Stmt := (inClass (topS 18) 1)
abbrev s_Cell_of : Stmt := (inClass (topS 18) 2)
abbrev s__law_begin : Stmt := (topS 20)
abbrev s__law_draw : Stmt := (topS 21)
abbrev s__law_divisor : Stmt := (topS 22)
abbrev s__law_term : Stmt := (topS 23)
abbrev s__law_odd : Stmt := (topS 24)
abbrev s__law_side : Stmt := (topS 25)
abbrev s__law_made : Stmt := (topS 26)
abbrev s__law_term_of : Stmt := (topS 27)
abbrev s__law_cells_hold : Stmt := (topS 28)
abbrev s__law_is : Stmt := (topS 29)
abbrev s_law : Stmt := (topS 30)
theorem sc__wall : FnScope ["k"] ["k"] (defScope s__wall) := ⟨rfl, rfl, rfl, by decide +kernel, rfl, by decide +kernel, by decide +kernel⟩
theorem sc_is_whole : FnScope ["thing"] ["thing"] (defScope s_is_whole) := ⟨rfl, rfl, rfl, by decide +kernel, rfl, by decide +kernel, by decide +kernel⟩
theorem sc_common_divisor : FnScope ["one", "other"] ["one", "other"] (defScope s_common_divisor) := ⟨rfl, rfl, rfl, by decide +kernel, rfl, by decide +kernel, by decide +kernel⟩
theorem sc_is_value : FnScope ["thing"] ["thing"] (defScope s_is_value) := ⟨rfl, rfl, rfl, by decide +kernel, rfl, by decide +kernel, by decide +kernel⟩
theorem sc_is_term : FnScope ["thing"] ["thing"] (defScope s_is_term) := ⟨rfl, rfl, rfl, by decide +kernel, rfl, by decide +kernel, by decide +kernel⟩
theorem sc_is_atom : FnScope ["thing"] ["thing"] (defScope s_is_atom) := ⟨rfl, rfl, rfl, by decide +kernel, rfl, by decide +kernel, by decide +kernel⟩
theorem sc_Cell___init__ : FnScope ["self", "place", "at"] ["self", "place", "at"] (defScope s_Cell___init__) := ⟨rfl, rfl, rfl, by decide +kernel, rfl, by decide +kernel, by decide +kernel⟩
theorem sc_Cell_term : FnScope ["self"] ["self"] (defScope s_Cell_term) := ⟨rfl, rfl, rfl, by decide +kernel, rfl, by decide +kernel, by decide +kernel⟩
theorem sc_Cell_of : FnScope ["thing"] ["thing"] (defScope s_Cell_of) := ⟨rfl, rfl, rfl, by decide +kernel, rfl, by decide +kernel, by decide +kernel⟩
theorem sc__law_begin : FnScope ["_law_script"] ["_law_script"] (defScope s__law_begin) := ⟨rfl, rfl, rfl, by decide +kernel, rfl, by decide +kernel, by decide +kernel⟩
theorem sc__law_draw : FnScope ["_law_source", "_law_limit", "_law_cell", "_law_digit"] ["_law_source", "_law_limit"] (defScope s__law_draw) := ⟨rfl, rfl, rfl, by decide +kernel, rfl, by decide +kernel, by decide +kernel⟩
theorem sc__law_divisor : FnScope ["_law_one", "_law_other", "_law_rest"] ["_law_one", "_law_other"] (defScope s__law_divisor) := ⟨rfl, rfl, rfl, by decide +kernel, rfl, by decide +kernel, by decide +kernel⟩
theorem sc__law_term : FnScope ["_law_source", "_law_place", "_law_column", "_law_top", "_law_bottom"] ["_law_source"] (defScope s__law_term) := ⟨rfl, rfl, rfl, by decide +kernel, rfl, by decide +kernel, by decide +kernel⟩
theorem sc__law_odd : FnScope ["_law_source", "_law_good", "_law_odd_here"] ["_law_source", "_law_good"] (defScope s__law_odd) := ⟨rfl, rfl, rfl, by decide +kernel, rfl, by decide +kernel, by decide +kernel⟩
theorem sc__law_side : FnScope ["_law_source", "_law_term_here"] ["_law_source"] (defScope s__law_side) := ⟨rfl, rfl, rfl, by decide +kernel, rfl, by decide +kernel, by decide +kernel⟩
theorem sc__law_made : FnScope ["_law_place", "_law_at", "_law_cell"] ["_law_place", "_law_at"] (defScope s__law_made) := ⟨rfl, rfl, rfl, by decide +kernel, rfl, by decide +kernel, by decide +kernel⟩
theorem sc__law_term_of : FnScope ["_law_thing", "_law_term_here", "e"] ["_law_thing"] (defScope s__law_term_of) := ⟨rfl, rfl, rfl, by decide +kernel, rfl, by decide +kernel, by decide +kernel⟩
theorem sc__law_cells_hold : FnScope ["_law_source", "_law_turn", "_law_place", "_law_at", "_law_cell", "_law_number", "_law_odd_here"] ["_law_source"] (defScope s__law_cells_hold) := ⟨rfl, rfl, rfl, by decide +kernel, rfl, by decide +kernel, by decide +kernel⟩
theorem sc__law_is : FnScope ["_law_actual", "_law_due"] ["_law_actual", "_law_due"] (defScope s__law_is) := ⟨rfl, rfl, rfl, by decide +kernel, rfl, by decide +kernel, by decide +kernel⟩
theorem sc_law : FnScope ["_law_script", "_law_source", "_law_turn", "_law_left", "_law_right", "_law_sign", "_law_due", "_law_odd_here"] ["_law_script"] (defScope s_law) := ⟨rfl, rfl, rfl, by decide +kernel, rfl, by decide +kernel, by decide +kernel⟩
structure Txt (K : PySem.W.Frag) (mg : Str → Option Value) : Prop where
  g__wall : mg "_wall" = some (.ref (ga K "_wall"))
  g_is_whole : mg "is_whole" = some (.ref (ga K "is_whole"))
  g_common_divisor : mg "common_divisor" = some (.ref (ga K "common_divisor"))
  g_is_value : mg "is_value" = some (.ref (ga K "is_value"))
  g_is_term : mg "is_term" = some (.ref (ga K "is_term"))
  g_is_atom : mg "is_atom" = some (.ref (ga K "is_atom"))
  g__law_begin : mg "_law_begin" = some (.ref (ga K "_law_begin"))
  g__law_draw : mg "_law_draw" = some (.ref (ga K "_law_draw"))
  g__law_divisor : mg "_law_divisor" = some (.ref (ga K "_law_divisor"))
  g__law_term : mg "_law_term" = some (.ref (ga K "_law_term"))
  g__law_odd : mg "_law_odd" = some (.ref (ga K "_law_odd"))
  g__law_side : mg "_law_side" = some (.ref (ga K "_law_side"))
  g__law_made : mg "_law_made" = some (.ref (ga K "_law_made"))
  g__law_term_of : mg "_law_term_of" = some (.ref (ga K "_law_term_of"))
  g__law_cells_hold : mg "_law_cells_hold" = some (.ref (ga K "_law_cells_hold"))
  g__law_is : mg "_law_is" = some (.ref (ga K "_law_is"))
  g_law : mg "law" = some (.ref (ga K "law"))
  g_NotSingle : mg "NotSingle" = some (.ref (ga K "NotSingle"))
  g_Conditions : mg "Conditions" = some (.ref (ga K "Conditions"))
  g_Cell : mg "Cell" = some (.ref (ga K "Cell"))
  x_AskError : XC K mg "AskError"
  x_NoCell : XC K mg "NoCell"
  x_NoCondition : XC K mg "NoCondition"
  g_SIGNS : mg "SIGNS" = some (.ref (ga K "SIGNS"))
  g_NEGATED : mg "NEGATED" = some (.ref (ga K "NEGATED"))
  g_PLACES : mg "PLACES" = some (.ref (ga K "PLACES"))
  g_MOST_COLUMNS : ∃ u, mg "MOST_COLUMNS" = some u ∧ RelV (.int 3) u
  z_ValueError : mg "ValueError" = none
  z_super : mg "super" = none
  z_isinstance : mg "isinstance" = none
  z_int : mg "int" = none
  z_bool : mg "bool" = none
  z_abs : mg "abs" = none
  z_tuple : mg "tuple" = none
  z_len : mg "len" = none
  z_str : mg "str" = none
  z_list : mg "list" = none
  z_staticmethod : mg "staticmethod" = none
  z_range : mg "range" = none
  e_NoCell_NoCell : PySem.W.exmOne K (.ref (ga K "NoCell")) (.ref (ga K "NoCell")) = some true
  m_Cell : Mk K (ga K "Cell") (ma K (ga K "Cell") "__init__")
  h_Cell_term : Meth K (ga K "Cell") "term" (ma K (ga K "Cell") "term")
  n_Cell_place : NoAttr K (ga K "Cell") "place"
  n_Cell_at : NoAttr K (ga K "Cell") "at"
  f__wall : ∃ fd, FunD K "_wall" "_wall" (defArgs s__wall) (defBody s__wall) (defScope s__wall) ([] : List V) [] (ga K "_wall") fd
  f_is_whole : ∃ fd, FunD K "is_whole" "is_whole" (defArgs s_is_whole) (defBody s_is_whole) (defScope s_is_whole) ([] : List V) [] (ga K "is_whole") fd
  f_common_divisor : ∃ fd, FunD K "common_divisor" "common_divisor" (defArgs s_common_divisor) (defBody s_common_divisor) (defScope s_common_divisor) ([] : List V) [] (ga K "common_divisor") fd
  f_is_value : ∃ fd, FunD K "is_value" "is_value" (defArgs s_is_value) (defBody s_is_value) (defScope s_is_value) ([] : List V) [] (ga K "is_value") fd
  f_is_term : ∃ fd, FunD K "is_term" "is_term" (defArgs s_is_term) (defBody s_is_term) (defScope s_is_term) ([] : List V) [] (ga K "is_term") fd
  f_is_atom : ∃ fd, FunD K "is_atom" "is_atom" (defArgs s_is_atom) (defBody s_is_atom) (defScope s_is_atom) ([] : List V) [] (ga K "is_atom") fd
  f_Cell___init__ : ∃ fd, FunD K "__init__" "Cell.__init__" (defArgs s_Cell___init__) (defBody s_Cell___init__) (defScope s_Cell___init__) ([] : List V) [] (ma K (ga K "Cell") "__init__") fd
  f_Cell_term : ∃ fd, FunD K "term" "Cell.term" (defArgs s_Cell_term) (defBody s_Cell_term) (defScope s_Cell_term) ([] : List V) [] (ma K (ga K "Cell") "term") fd
  f_Cell_of : ∃ fd, FunD K "of" "Cell.of" (defArgs s_Cell_of) (defBody s_Cell_of) (defScope s_Cell_of) ([] : List V) [] (He5.wf K (ga K "Cell") "staticmethod" "of") fd
  f__law_begin : ∃ fd, FunD K "_law_begin" "_law_begin" (defArgs s__law_begin) (defBody s__law_begin) (defScope s__law_begin) ([] : List V) [] (ga K "_law_begin") fd
  f__law_draw : ∃ fd, FunD K "_law_draw" "_law_draw" (defArgs s__law_draw) (defBody s__law_draw) (defScope s__law_draw) ([] : List V) [] (ga K "_law_draw") fd
  f__law_divisor : ∃ fd, FunD K "_law_divisor" "_law_divisor" (defArgs s__law_divisor) (defBody s__law_divisor) (defScope s__law_divisor) ([] : List V) [] (ga K "_law_divisor") fd
  f__law_term : ∃ fd, FunD K "_law_term" "_law_term" (defArgs s__law_term) (defBody s__law_term) (defScope s__law_term) ([] : List V) [] (ga K "_law_term") fd
  f__law_odd : ∃ fd, FunD K "_law_odd" "_law_odd" (defArgs s__law_odd) (defBody s__law_odd) (defScope s__law_odd) ([] : List V) [] (ga K "_law_odd") fd
  f__law_side : ∃ fd, FunD K "_law_side" "_law_side" (defArgs s__law_side) (defBody s__law_side) (defScope s__law_side) ([] : List V) [] (ga K "_law_side") fd
  f__law_made : ∃ fd, FunD K "_law_made" "_law_made" (defArgs s__law_made) (defBody s__law_made) (defScope s__law_made) ([] : List V) [] (ga K "_law_made") fd
  f__law_term_of : ∃ fd, FunD K "_law_term_of" "_law_term_of" (defArgs s__law_term_of) (defBody s__law_term_of) (defScope s__law_term_of) ([] : List V) [] (ga K "_law_term_of") fd
  f__law_cells_hold : ∃ fd, FunD K "_law_cells_hold" "_law_cells_hold" (defArgs s__law_cells_hold) (defBody s__law_cells_hold) (defScope s__law_cells_hold) ([] : List V) [] (ga K "_law_cells_hold") fd
  f__law_is : ∃ fd, FunD K "_law_is" "_law_is" (defArgs s__law_is) (defBody s__law_is) (defScope s__law_is) ([] : List V) [] (ga K "_law_is") fd
  f_law : ∃ fd, FunD K "law" "law" (defArgs s_law) (defBody s_law) (defScope s_law) ([] : List V) [] (ga K "law") fd
  c_NoCell : ExcC K (ga K "NoCell")
  k_NoCell_ValueError : PySem.W.kitOne K (.ref (ga K "NoCell")) (.type "ValueError") = some true
  o_Cell : OC K (ga K "Cell")
  s_Cell_of : Sm K (ga K "Cell") "of" (He5.wf K (ga K "Cell") "staticmethod" "of")
  t_PLACES : ∀ H : Hp, SqT K H (ga K "PLACES") [.str "old", .str "first", .str "second"]
  t_SIGNS : ∀ H : Hp, SqT K H (ga K "SIGNS") [.str "<", .str "<=", .str "=", .str "!="]
end K03
namespace K03
open PySem PySem.Spec PyProof.Rows L2 He TL EL
section
variable {P : Program} {w : World} {K : PySem.W.Frag} {mg : Str → Option Value} {base : Heap}
/-! is_whole -/
def spIsWhole (K : PySem.W.Frag) : Sp := fun vs H Q _ => ∃ v th, vs = [v] ∧ ThOk K H v th ∧ Q (.bl (isWholeT th)) H
theorem d_is_whole (T : Txt K mg) : Dn P w K mg base CX0 1 "is_whole" (spIsWhole K) := by
  obtain ⟨fd, F⟩ := T.f_is_whole
  refine dnN T.g_is_whole F (fun _ _ _ _ _ _ us hl => match us, hl with | [_], _ => rfl) sc_is_whole (fun vs H Q E h => ?_) (fun cdv A outer s H vs Q E hr h => ?_)
  · obtain ⟨v, th, rfl, _⟩ := h
    rfl
  · obtain ⟨v, th, rfl, ht, q⟩ := h
    obtain ⟨t, ty, ki⟩ := ht.ty
    refine ⟨_, PSs.nox (pss_one (ps_ret (pe_and (pe_callB call_isi (by rfl) T.z_isinstance (by decide +kernel) (pa_cons (pv 0) (pa_cons (pe_bltn (v := .ty "int") (by rfl) T.z_int (by decide +kernel) rfl) pa_nil))) (pe_one (pe_not (pe_callB call_isi (by rfl) T.z_isinstance (by decide +kernel) (pa_cons (pv 0) (pa_cons (pe_bltn (v := .ty "bool") (by rfl) T.z_bool (by decide +kernel) rfl) pa_nil)))))))), ?_⟩
    refine ⟨_, rfl, _, _, t, _, _, rfl, .ty _, ty, ki .int, _, rfl, ie (fun h1 => ?_) (fun h1 => ?_)⟩
    · refine ⟨_, rfl, _, _, t, _, _, rfl, .ty _, ty, ki .bl, _, rfl, ?_⟩
      have e : isWholeT th = !th.is .bl := by unfold isWholeT; rw [h1]; rfl
      rw [e] at q
      exact q
    · have e : isWholeT th = false := by unfold isWholeT; rw [h1]; rfl
      rw [e] at q
      exact q
/-! common_divisor -/
def spCD : Sp := fun vs H Q _ => ∃ a b : Int, vs = [.int a, .int b] ∧ Q (.int (cd a b)) H
theorem d_common_divisor (T : Txt K mg) : Dn P w K mg base CX0 1 "common_divisor" spCD := by
  obtain ⟨fd, F⟩ := T.f_common_divisor
  refine dnN T.g_common_divisor F (fun _ _ _ _ _ _ us hl => match us, hl with | [_, _], _ => rfl) sc_common_divisor (fun vs H Q E h => ?_) (fun cdv A outer s H vs Q E hr h => ?_)
  · obtain ⟨a, b, rfl, _⟩ := h
    rfl
  · obtain ⟨a, b, rfl, q⟩ := h
    refine ⟨_, PSs.nox (pss_cons (ps_par (i := 0) (j := 1) (by rfl) sc_common_divisor.nd rfl rfl (by decide) rfl rfl (pa_cons (pe_callB call_abs (by rfl) T.z_abs (by decide +kernel) (pa_cons (pv 0) pa_nil)) (pa_cons (pe_callB call_abs (by rfl) T.z_abs (by decide +kernel) (pa_cons (pv 1) pa_nil)) pa_nil)) (by rfl))
      (pss_cons (ps_while PassesOwn.never (pt_cmpR op_gt (pv 1) pe_int (nomark _))
      (pss_one (ps_par (i := 0) (j := 1) (by rfl) sc_common_divisor.nd rfl rfl (by decide) rfl rfl (pa_cons (pv 1) (pa_cons (pe_op op_mod (pv 0) (pv 1)) pa_nil)) (by rfl))))
      (pss_one (ps_ret (pv 0))))), ?_⟩
    refine ⟨_, rfl, _, rfl, _, rfl, _, rfl, _, _, rfl, ?_⟩
    refine ⟨fun m σ H' => ∃ x y : Nat, m = y ∧ σ = [some (.int x), some (.int y)] ∧ H' = H ∧ Nat.gcd x y = Nat.gcd a.natAbs b.natAbs, ⟨b.natAbs, a.natAbs, b.natAbs, rfl, ?_, rfl, rfl⟩, ?_⟩
    · have e : ∀ z : Int, (if z < 0 then -z else z) = (z.natAbs : Int) := fun z => by split <;> omega
      show [some (V.int _), some (V.int _)] = _
      rw [e, e]
    · rintro m σ H' ⟨x, y, em, rfl, rfl, hg⟩
      subst m
      refine ⟨_, rfl, _, _, rfl, rfl, _, rfl, ie (fun h1 => ?_) (fun h1 => ?_)⟩
      · have hy : 0 < y := by
          have := of_decide_eq_true h1
          omega
        refine ⟨_, fun σ' H2 hN => hN, _, rfl, _, rfl, _, rfl, _, _, rfl, rfl, (by show (0 : Int) < (y : Int); omega), _, _, rfl, ?_⟩
        exact ⟨x % y, Nat.mod_lt _ hy, y, x % y, rfl, rfl, rfl, by rw [← hg, Nat.gcd_comm x y, Nat.gcd_rec y x, Nat.gcd_comm]⟩
      · have hy : y = 0 := by
          have := of_decide_eq_false h1
          omega
        refine ⟨_, rfl, ?_⟩
        subst hy
        rw [Nat.gcd_zero_right] at hg
        unfold cd at q
        rw [← hg] at q
        exact q
/-! is_value -/
def spIsValue (K : PySem.W.Frag) : Sp := fun vs H Q _ => ∃ v th, vs = [v] ∧ ThOk K H v th ∧ Q (.bl (isValT th)) H
theorem d_is_value (T : Txt K mg) : Dn P w K mg base CX0 2 "is_value" (spIsValue K) := by
  obtain ⟨fd, F⟩ := T.f_is_value
  have D_is_whole := d_is_whole (P := P) (w := w) (base := base) T
  have D_common_divisor := d_common_divisor (P := P) (w := w) (base := base) T
  refine dnN T.g_is_value F (fun _ _ _ _ _ _ us hl => match us, hl with | [_], _ => rfl) sc_is_value (fun vs H Q E h => ?_) (fun cdv A outer s H vs Q E hr h => ?_)
  · obtain ⟨v, th, rfl, _⟩ := h
    rfl
  · obtain ⟨v, th, rfl, ht, q⟩ := h
    obtain ⟨t, ty, ki⟩ := ht.ty
    refine ⟨_, PSs.nox (pss_cons (ps_if (PW.pt (pw_or (pt_not (pt_val (pe_callB call_isi (by rfl) T.z_isinstance (by decide +kernel) (pa_cons (pv 0) (pa_cons (pe_bltn (v := .ty "tuple") (by rfl) T.z_tuple (by decide +kernel) rfl) pa_nil))))) (pw_or1 (pt_cmpR op_ne (pe_callB call_len_seq (by rfl) T.z_len (by decide +kernel) (pa_cons (pv 0) pa_nil)) pe_int (nomark _))))) (pss_one (ps_ret pe_bl)) pss_nil)
      (pss_cons (ps_if (PW.pt (pw_or (pt_not (pt_val (cl D_is_whole (hr.mono (by decide)) (pa_cons (pe_ix ix_tup (pv 0) pe_int (fun _ _ => rfl)) pa_nil)))) (pw_or (pt_not (pt_val (cl D_is_whole (hr.mono (by decide)) (pa_cons (pe_ix ix_tup (pv 0) pe_int (fun _ _ => rfl)) pa_nil)))) (pw_or1 (pt_cmpR op_lt (pe_ix ix_tup (pv 0) pe_int (fun _ _ => rfl)) pe_int (nomark _)))))) (pss_one (ps_ret pe_bl)) pss_nil)
      (pss_one (ps_ret (pe_cmpR op_eq (cl D_common_divisor (hr.mono (by decide)) (pa_cons (pe_ix ix_tup (pv 0) pe_int (fun _ _ => rfl)) (pa_cons (pe_ix ix_tup (pv 0) pe_int (fun _ _ => rfl)) pa_nil))) pe_int (nomark _)))))), ?_⟩
    refine ⟨_, rfl, _, _, t, _, _, rfl, .ty _, ty, ki .tup, _, rfl, ?_⟩
    by_cases hn : ∃ ds, th = .d (.tuple ds)
    · obtain ⟨ds, rfl⟩ := hn
      refine iteF ?_
      cases ht with
      | @tup a xs _ hS hA =>
      refine ⟨_, rfl, _, _, rfl, .inr hS, rfl, _, rfl, ?_⟩
      by_cases hl : xs.length = 2
      · match xs, hl with
        | [v0, v1], _ =>
        match ds, hA with
        | [d0, d1], .cons h0 (.cons h1 .nil) =>
        refine iteF ?_
        -- is_whole(thing[0])
        refine ⟨_, rfl, _, _, 0, v0, rfl, rfl, hS, atI_nat (j := 0) rfl, v0, .d d0, rfl, h0, _, rfl, ?_⟩
        rw [isWholeT_d]
        by_cases w0 : ∃ a, d0 = .int a
        · obtain ⟨a0, rfl⟩ := w0
          refine iteF ?_
          refine ⟨_, rfl, _, _, 1, v1, rfl, rfl, hS, atI_nat (j := 1) rfl, v1, .d d1, rfl, h1, _, rfl, ?_⟩
          rw [isWholeT_d]
          by_cases w1 : ∃ b, d1 = .int b
          · obtain ⟨b0, rfl⟩ := w1
            refine iteF ?_
            cases h0
            cases h1
            refine ⟨_, rfl, _, _, 1, _, rfl, rfl, hS, atI_nat (j := 1) rfl, _, _, rfl, rfl, _, rfl, ie (fun c => ?_) (fun c => ?_)⟩
            · have e : isValT (.d (.tuple [.int a0, .int b0])) = false := by
                show (!decide (b0 < 1) && decide (cd a0 b0 = 1)) = false
                rw [c]
                rfl
              rw [e] at q
              exact q
            · have e : isValT (.d (.tuple [.int a0, .int b0])) = decide (V.int (cd a0 b0) = V.int 1) := by
                show (!decide (b0 < 1) && decide (cd a0 b0 = 1)) = decide (V.int (cd a0 b0) = V.int 1)
                rw [c]
                simp
              rw [e] at q
              exact ⟨_, rfl, _, _, 0, _, rfl, rfl, hS, atI_nat (j := 0) rfl, _, rfl, _, _, 1, _, rfl, rfl, hS, atI_nat (j := 1) rfl, _, _, rfl, rfl, q⟩
          · have e2 : isWholeD d1 = false := by
              cases d1 <;> first | rfl | exact absurd ⟨_, rfl⟩ w1
            rw [e2]
            have e : isValT (.d (.tuple [.int a0, d1])) = false := by
              cases d1 <;> first | rfl | exact absurd ⟨_, rfl⟩ w1
            rw [e] at q
            exact q
        · have e2 : isWholeD d0 = false := by
            cases d0 <;> first | rfl | exact absurd ⟨_, rfl⟩ w0
          rw [e2]
          have e : isValT (.d (.tuple [d0, d1])) = false := by
            cases d0 <;> first | rfl | exact absurd ⟨_, rfl⟩ w0
          rw [e] at q
          exact q
      · have e2 : decide (V.int (xs.length : Int) = V.int 2) = false := decide_eq_false fun z => hl (by injection z; omega)
        rw [e2]
        have hdl : ds.length ≠ 2 := by
          rw [← DpAll.length hA]
          exact hl
        have e : isValT (.d (.tuple ds)) = false := by
          match ds, hdl with
          | [], _ => rfl
          | [_], _ => simp [isValT, isValD]
          | [_, _], h => exact absurd rfl h
          | _ :: _ :: _ :: _, _ => simp [isValT, isValD]
        rw [e] at q
        exact q
    · have e1 : th.is .tup = false := by
        cases th with
        | o => rfl
        | d d => cases d <;> first | rfl | exact absurd ⟨_, rfl⟩ hn
      rw [e1]
      have e : isValT th = false := by
        cases th with
        | o => rfl
        | d d => cases d <;> first | rfl | exact absurd ⟨_, rfl⟩ hn
      rw [e] at q
      exact q
/-! _law_begin -/
def spBegin (K : PySem.W.Frag) : Sp := fun vs H Q _ => ∃ (a : Addr) (ns : List Int), vs = [.ref a] ∧ SqL K H a (ns.map V.int) ∧ ∀ p l H', H p = none → H l = none → Same H H' → Src H' p l → Q (.ref p) H'
theorem cut_map (ns : List Int) (lo hi : Option Int) : ∃ ms : List Int, cutV (ns.map V.int) lo hi = ms.map V.int := by
  unfold cutV
  rw [← List.map_drop, ← List.map_take]
  exact ⟨_, rfl⟩
theorem d_begin (T : Txt K mg) : Dn P w K mg base CX0 1 "_law_begin" (spBegin K) := by
  obtain ⟨fd, F⟩ := T.f__law_begin
  refine dnN T.g__law_begin F (fun _ _ _ _ _ _ us hl => match us, hl with | [_], _ => rfl) sc__law_begin (fun vs H Q E h => ?_) (fun cdv A outer s H vs Q E hr h => ?_)
  · obtain ⟨a, ns, rfl, _⟩ := h
    rfl
  · obtain ⟨a, ns, rfl, hS, q⟩ := h
    refine ⟨_, PSs.nox (pss_one (ps_ret (pe_lst (pa_cons (pe_callTy call_list_of (by rfl) T.z_list (by decide +kernel) (pa_cons (pe_slice sl_list (pv 0) po_none (po_some pe_int)) pa_nil)) (pa_cons pe_int (pa_cons pe_int (pa_cons pe_int pa_nil))))))), ?_⟩
    obtain ⟨ms, hm⟩ := cut_map ns none (some 63)
    refine ⟨_, rfl, _, rfl, _, _, rfl, hS, fun c nc => ?_⟩
    rw [hm]
    generalize eH1 : upd H c _ = H1
    have s1 : Same H H1 := eH1 ▸ same_upd nc
    have h1 : H1 c = some _ := eH1 ▸ upd_same
    refine ⟨_, _, rfl, .inl (SqL.of h1), fun l nl => ?_⟩
    generalize eH2 : upd H1 l _ = H2
    have s2 : Same H1 H2 := eH2 ▸ same_upd nl
    have h2 : H2 l = some _ := eH2 ▸ upd_same
    refine ⟨(by show 4 ≤ sizeLine; decide), fun p np => ?_⟩
    generalize eH3 : upd H2 p _ = H3
    have s3 : Same H2 H3 := eH3 ▸ same_upd np
    have h3 : H3 p = some _ := eH3 ▸ upd_same
    exact q p l H3 (s1.free (s2.free np)) (s1.free nl) (s1.trans (s2.trans s3)) ⟨ms, 0, 0, 7, h3, s3 _ _ h2, by omega, by omega, by omega⟩
/-! _law_draw -/
def spDraw : Sp := fun vs H Q _ => ∃ (p l : Addr) (L : Int), vs = [.ref p, .int L] ∧ 0 < L ∧ L ≤ 1000000000000000000 ∧ Src H p l ∧ ∀ (n : Int) (H' : Hp), 0 ≤ n → n < L → Src H' p l → But p H H' → Q (.int n) H'
theorem mulok {i j : Int} {a : Nat} (h1 : i.natAbs < 2 ^ 70) (h2 : j.natAbs < 2 ^ 70) : CMulW i j := wide_mul h1 h2 (by decide) (by decide) (by decide)
theorem pow18 : ((10 : Int) ^ (18 : Int).toNat) = 1000000000000000000 := by decide +kernel
theorem d_draw (T : Txt K mg) : Dn P w K mg base CX0 1 "_law_draw" spDraw := by
  obtain ⟨fd, F⟩ := T.f__law_draw
  refine dnN T.g__law_draw F (fun _ _ _ _ _ _ us hl => match us, hl with | [_, _], _ => rfl) sc__law_draw (fun vs H Q E h => ?_) (fun cdv A outer s H vs Q E hr h => ?_)
  · obtain ⟨p, l, L, rfl, _⟩ := h
    rfl
  · obtain ⟨p, l, L, rfl, hL0, hL1, hS, q⟩ := h
    obtain ⟨ns, i, c, r, h1, h2, hc, hr0, hr1⟩ := id hS
    have npl : l ≠ p := hS.ne
    have hpw : CPow 10 18 := ⟨by decide, by decide, by decide⟩
    refine ⟨_, PSs.nox (pss_mid (ps_if (PW.pt (pw_and (pt_cmpR op_lt (pe_ix ix_list (pv 0) pe_int (fun _ _ => rfl)) (pe_op op_pow pe_int pe_int) (nomark _)) (pw_and1 (pt_cmpR op_lt (pe_ix ix_list (pv 0) pe_int (fun _ _ => rfl)) (pe_callB call_len_seq (by rfl) T.z_len (by decide +kernel) (pa_cons (pe_ix ix_list (pv 0) pe_int (fun _ _ => rfl)) pa_nil)) (nomark _))))) (pss_cons (ps_set (i := 2) sc__law_draw.nd rfl (.inl rfl) (pe_callTy call_int1 (by rfl) T.z_int (by decide +kernel) (pa_cons (pe_ix ix_list (pe_ix ix_list (pv 0) pe_int (fun _ _ => rfl)) (pe_ix ix_list (pv 0) pe_int (fun _ _ => rfl)) (fun _ _ => rfl)) pa_nil)))
      (pss_cons (ps_asg (pe_op op_add (pe_ix ix_list (pv 0) pe_int (fun _ _ => rfl)) pe_int) (pg_sub (pv 0) pe_int set_list))
      (pss_cons (ps_asg pe_int (pg_sub (pv 0) pe_int set_list))
      (pss_mid (ps_if (pt_cmpR op_ge (pv 2) (pe_op op_pow pe_int pe_int) (nomark _)) (pss_one (ps_asg (pv 2) (pg_sub (pv 0) pe_int set_list))) pss_nil)
      (pss_one (ps_asg (pe_op op_mod (pe_op op_add (pe_op op_add (pe_op op_mulW (pe_ix ix_list (pv 0) pe_int (fun _ _ => rfl)) pe_int) (pe_op op_mod (pv 2) pe_int)) pe_int) pe_int) (pg_sub (pv 0) pe_int set_list))))))) pss_nil)
      (pss_cons (ps_if (pt_cmpR op_ge (pe_ix ix_list (pv 0) pe_int (fun _ _ => rfl)) (pe_op op_pow pe_int pe_int) (nomark _)) (pss_cons (ps_set (i := 3) sc__law_draw.nd rfl (.inl rfl) (pe_op op_mod (pe_ix ix_list (pv 0) pe_int (fun _ _ => rfl)) (pv 1)))
      (pss_cons (ps_asg (pe_op op_fdivW (pe_ix ix_list (pv 0) pe_int (fun _ _ => rfl)) (pv 1)) (pg_sub (pv 0) pe_int set_list))
      (pss_one (ps_ret (pv 3))))) pss_nil)
      (pss_cons (ps_asg (pe_op op_mod (pe_op op_add (pe_op op_mulW (pe_ix ix_list (pv 0) pe_int (fun _ _ => rfl)) pe_int) pe_int) pe_int) (pg_sub (pv 0) pe_int set_list))
      (pss_one (ps_ret (pe_op op_mod (pe_op op_fdivW (pe_ix ix_list (pv 0) pe_int (fun _ _ => rfl)) pe_int) (pv 1))))))), ?_⟩
    refine ⟨fun σ' H' => ∃ v2, σ' = [some (.ref p), some (.int L), v2, none] ∧ Src H' p l ∧ But p H H', ?_, ?_⟩
    · -- the first test
      refine ⟨_, rfl, _, _, 2, _, rfl, rfl, SqL.of h1, atI_nat (j := 2) rfl, _, _, rfl, rfl, hpw, _, _, rfl, rfl, _, rfl, ie (fun c1 => ?_) (fun c1 => ?_)⟩
      · refine ⟨_, rfl, _, _, 1, _, rfl, rfl, SqL.of h1, atI_nat (j := 1) rfl, _, rfl, _, _, 0, _, rfl, rfl, SqL.of h1, atI_nat (j := 0) rfl, _, _, rfl, .inl (SqL.of h2), _, _, rfl, rfl, _, rfl, ie (fun c2 => ?_) (fun c2 => ?_)⟩
        · have c2 := of_decide_eq_true c2
          rw [List.length_map] at c2
          have hi : i < ns.length := by omega
          have hg : (ns.map V.int)[i]? = some (.int ns[i]) := by
            rw [List.getElem?_map, List.getElem?_eq_getElem hi]
            rfl
          generalize ns[i] = z at hg
          -- _law_cell = int(_law_source[0][_law_source[1]])
          refine ⟨_, rfl, _, _, 0, _, rfl, rfl, SqL.of h1, atI_nat (j := 0) rfl, _, rfl, _, _, 1, _, rfl, rfl, SqL.of h1, atI_nat (j := 1) rfl, _, _, _, _, rfl, rfl, SqL.of h2, atI_nat hg, .inl ⟨_, rfl, ?_⟩⟩
          -- _law_source[1] = _law_source[1] + 1
          refine ⟨_, rfl, _, _, 1, _, rfl, rfl, SqL.of h1, atI_nat (j := 1) rfl, _, _, rfl, rfl, _, rfl, p, _, 1, 1, rfl, rfl, h1, rfl, ?_⟩
          generalize e3 : upd H p _ = H3
          have b3 : But p H H3 := e3 ▸ but_upd
          have h3 : H3 p = some (.lst [.ref l, .int (i + 1), .int c, .int r]) := e3 ▸ upd_same
          -- _law_source[2] = 0
          refine ⟨_, rfl, p, _, 2, 2, rfl, rfl, h3, rfl, ?_⟩
          generalize e4 : upd H3 p _ = H4
          have b4 : But p H3 H4 := e4 ▸ but_upd
          have h4 : H4 p = some (.lst [.ref l, .int (i + 1), .int 0, .int r]) := e4 ▸ upd_same
          -- if _law_cell >= 10 ** 18: _law_source[2] = _law_cell
          refine ⟨fun σ' H' => ∃ c' : Int, 0 ≤ c' ∧ σ' = [some (.ref p), some (.int L), some (.int z), none] ∧ But p H H' ∧ H' p = some (.lst [.ref l, .int (i + 1), .int c', .int r]), ?_, ?_⟩
          · refine ⟨_, rfl, _, _, rfl, rfl, hpw, _, _, rfl, rfl, _, rfl, ie (fun c3 => ?_) (fun c3 => ?_)⟩
            · have c3 := of_decide_eq_true c3
              rw [pow18] at c3
              refine ⟨_, rfl, _, rfl, p, _, 2, 2, rfl, rfl, h4, rfl, ?_⟩
              exact ⟨z, by omega, rfl, b3.trans (b4.trans but_upd), upd_same⟩
            · exact ⟨0, by omega, rfl, b3.trans b4, h4⟩
          · rintro σ' H5 ⟨c', hc', rfl, b5, h5⟩
            have hm : CMulW r 48271 := mulok (a := 0) (by omega) (by decide)
            have hmod : 0 ≤ (r * 48271 + z % 2147483629 + 11) % 2147483647 ∧ (r * 48271 + z % 2147483629 + 11) % 2147483647 < 2147483647 := ⟨Int.emod_nonneg _ (by decide), Int.emod_lt_of_pos _ (by decide)⟩
            refine ⟨_, rfl, _, _, 3, _, rfl, rfl, SqL.of h5, atI_nat (j := 3) rfl, _, _, rfl, rfl, hm, _, rfl, _, _, rfl, rfl, (by show (0 : Int) < 2147483629; decide), _, _, rfl, rfl, _, _, rfl, rfl, _, _, rfl, rfl, (by show (0 : Int) < 2147483647; decide), _, rfl, p, _, 3, 3, rfl, rfl, h5, rfl, ?_⟩
            exact ⟨_, rfl, ⟨ns, i + 1, c', _, upd_same, by rw [upd_ne npl]; exact b5 _ _ h2 npl, hc', hmod.1, hmod.2⟩, b5.trans but_upd⟩
        · exact ⟨none, rfl, hS, .refl _ _⟩
      · exact ⟨none, rfl, hS, .refl _ _⟩
    · rintro σ' H1 ⟨v2, rfl, hS1, b1⟩
      clear h1 h2 hc hr0 hr1 npl
      obtain ⟨ns, i, c, r, h1, h2, hc, hr0, hr1⟩ := id hS1
      have npl : l ≠ p := hS1.ne
      refine ⟨_, rfl, _, _, 2, _, rfl, rfl, SqL.of h1, atI_nat (j := 2) rfl, _, _, rfl, rfl, hpw, _, _, rfl, rfl, _, rfl, ie (fun c1 => ?_) (fun c1 => ?_)⟩
      · refine ⟨_, rfl, _, _, 2, _, rfl, rfl, SqL.of h1, atI_nat (j := 2) rfl, _, rfl, _, _, rfl, rfl, hL0, ?_⟩
        have hdv : CDivW c L := wide_div hL0 (b := 64) (by omega) (by decide) (by decide)
        refine ⟨_, rfl, _, _, 2, _, rfl, rfl, SqL.of h1, atI_nat (j := 2) rfl, _, rfl, _, _, rfl, rfl, hdv, _, rfl, p, _, 2, 2, rfl, rfl, h1, rfl, ?_⟩
        refine ⟨_, rfl, ?_⟩
        refine q (c % L) _ (Int.emod_nonneg _ (by omega)) (Int.emod_lt_of_pos _ hL0) ⟨ns, i, c / L, r, upd_same, by rw [upd_ne npl]; exact h2, Int.ediv_nonneg hc (by omega), hr0, hr1⟩ (b1.trans but_upd)
      · have hm : CMulW r 39373 := mulok (a := 0) (by omega) (by decide)
        have hmod : 0 ≤ (r * 39373 + 12820163) % 2147483647 ∧ (r * 39373 + 12820163) % 2147483647 < 2147483647 := ⟨Int.emod_nonneg _ (by decide), Int.emod_lt_of_pos _ (by decide)⟩
        refine ⟨_, rfl, _, _, 3, _, rfl, rfl, SqL.of h1, atI_nat (j := 3) rfl, _, _, rfl, rfl, hm, _, _, rfl, rfl, _, _, rfl, rfl, (by show (0 : Int) < 2147483647; decide), _, rfl, p, _, 3, 3, rfl, rfl, h1, rfl, ?_⟩
        generalize e3 : upd H1 p _ = H3
        have b3 : But p H1 H3 := e3 ▸ but_upd
        have h3 : H3 p = some (.lst [.ref l, .int i, .int c, .int ((r * 39373 + 12820163) % 2147483647)]) := e3 ▸ upd_same
        generalize (r * 39373 + 12820163) % 2147483647 = r2 at *
        have hdv : CDivW r2 16 := ⟨by decide, by decide⟩
        refine ⟨_, rfl, _, _, 3, _, rfl, rfl, SqL.of h3, atI_nat (j := 3) rfl, _, _, rfl, rfl, hdv, _, rfl, _, _, rfl, rfl, hL0, ?_⟩
        exact q (r2 / 16 % L) _ (Int.emod_nonneg _ (by omega)) (Int.emod_lt_of_pos _ hL0) ⟨ns, i, c, r2, h3, b3 _ _ h2 npl, hc, hmod.1, hmod.2⟩ (b1.trans b3)
/-! _law_divisor -/
theorem d_divisor (T : Txt K mg) : Dn P w K mg base CX0 1 "_law_divisor" spCD := by
  obtain ⟨fd, F⟩ := T.f__law_divisor
  refine dnN T.g__law_divisor F (fun _ _ _ _ _ _ us hl => match us, hl with | [_, _], _ => rfl) sc__law_divisor (fun vs H Q E h => ?_) (fun cdv A outer s H vs Q E hr h => ?_)
  · obtain ⟨a, b, rfl, _⟩ := h
    rfl
  · obtain ⟨a, b, rfl, q⟩ := h
    refine ⟨_, PSs.nox (pss_cons (ps_set (i := 0) sc__law_divisor.nd rfl (.inl rfl) (pe_callB call_abs (by rfl) T.z_abs (by decide +kernel) (pa_cons (pv 0) pa_nil)))
      (pss_cons (ps_set (i := 1) sc__law_divisor.nd rfl (.inl rfl) (pe_callB call_abs (by rfl) T.z_abs (by decide +kernel) (pa_cons (pv 1) pa_nil)))
      (pss_cons (ps_while PassesOwn.never (pt_cmpR op_gt (pv 1) pe_int (nomark _))
      (pss_cons (ps_set (i := 2) sc__law_divisor.nd rfl (.inl rfl) (pe_op op_mod (pv 0) (pv 1)))
      (pss_cons (ps_set (i := 0) sc__law_divisor.nd rfl (.inl rfl) (pv 1))
      (pss_one (ps_set (i := 1) sc__law_divisor.nd rfl (.inl rfl) (pv 2))))))
      (pss_one (ps_ret (pv 0)))))), ?_⟩
    refine ⟨_, rfl, _, rfl, _, rfl, _, rfl, ?_⟩
    refine ⟨fun m σ H' => ∃ (x y : Nat) (v : Option V), m = y ∧ σ = [some (.int x), some (.int y), v] ∧ H' = H ∧ Nat.gcd x y = Nat.gcd a.natAbs b.natAbs, ⟨b.natAbs, a.natAbs, b.natAbs, none, rfl, ?_, rfl, rfl⟩, ?_⟩
    · have e : ∀ z : Int, (if z < 0 then -z else z) = (z.natAbs : Int) := fun z => by split <;> omega
      show [some (V.int _), some (V.int _), none] = _
      rw [e, e]
    · rintro m σ H' ⟨x, y, v, em, rfl, rfl, hg⟩
      subst m
      refine ⟨_, rfl, _, _, rfl, rfl, _, rfl, ie (fun h1 => ?_) (fun h1 => ?_)⟩
      · have hy : 0 < y := by
          have := of_decide_eq_true h1
          omega
        refine ⟨_, fun σ' H2 hN => hN, _, rfl, _, rfl, _, _, rfl, rfl, (by show (0 : Int) < (y : Int); omega), _, rfl, _, rfl, ?_⟩
        exact ⟨x % y, Nat.mod_lt _ hy, y, x % y, _, rfl, rfl, rfl, by rw [← hg, Nat.gcd_comm x y, Nat.gcd_rec y x, Nat.gcd_comm]⟩
      · have hy : y = 0 := by
          have := of_decide_eq_false h1
          omega
        refine ⟨_, rfl, ?_⟩
        subst hy
        rw [Nat.gcd_zero_right] at hg
        unfold cd at q
        rw [← hg] at q
        exact q
/-! is_term -/
def plV : List V := [.str "old", .str "first", .str "second"]
def sgV : List V := [.str "<", .str "<=", .str "=", .str "!="]
def colD : PyData → Bool
  | .int i => decide (0 ≤ i) && decide (i < 3)
  | _ => false
def termD (z : Str) (d : PyData) : Bool := if decide (V.str z = V.str "value") = true then isValD d else inV (.str z) plV && colD d
def isTermD : PyData → Bool
  | .tuple [.str z, d] => termD z d
  | _ => false
def isTermT : Th → Bool
  | Th.d x => isTermD x
  | Th.o => false
def spIsTerm (K : PySem.W.Frag) : Sp := fun vs H Q _ => ∃ v th, vs = [v] ∧ ThOk K H v th ∧ Q (.bl (isTermT th)) H
theorem d_is_term (T : Txt K mg) : Dn P w K mg base CX0 3 "is_term" (spIsTerm K) := by
  obtain ⟨fd, F⟩ := T.f_is_term
  have D_is_whole := d_is_whole (P := P) (w := w) (base := base) T
  have D_is_value := d_is_value (P := P) (w := w) (base := base) T
  refine dnN T.g_is_term F (fun _ _ _ _ _ _ us hl => match us, hl with | [_], _ => rfl) sc_is_term (fun vs H Q E h => ?_) (fun cdv A outer s H vs Q E hr h => ?_)
  · obtain ⟨v, th, rfl, _⟩ := h
    rfl
  · obtain ⟨v, th, rfl, ht, q⟩ := h
    obtain ⟨t, ty, ki⟩ := ht.ty
    refine ⟨_, PSs.nox (pss_cons (ps_if (PW.pt (pw_or (pt_not (pt_val (pe_callB call_isi (by rfl) T.z_isinstance (by decide +kernel) (pa_cons (pv 0) (pa_cons (pe_bltn (v := .ty "tuple") (by rfl) T.z_tuple (by decide +kernel) rfl) pa_nil))))) (pw_or (pt_cmpR op_ne (pe_callB call_len_seq (by rfl) T.z_len (by decide +kernel) (pa_cons (pv 0) pa_nil)) pe_int (nomark _)) (pw_or1 (pt_not (pt_val (pe_callB call_isi (by rfl) T.z_isinstance (by decide +kernel) (pa_cons (pe_ix ix_tup (pv 0) pe_int (fun _ _ => rfl)) (pa_cons (pe_bltn (v := .ty "str") (by rfl) T.z_str (by decide +kernel) rfl) pa_nil))))))))) (pss_one (ps_ret pe_bl)) pss_nil)
      (pss_cons (ps_if (pt_cmpR op_eq (pe_ix ix_tup (pv 0) pe_int (fun _ _ => rfl)) pe_str (nomark _)) (pss_one (ps_ret (cl D_is_value (hr.mono (by decide)) (pa_cons (pe_ix ix_tup (pv 0) pe_int (fun _ _ => rfl)) pa_nil)))) pss_nil)
      (pss_one (ps_ret (pe_and (pe_cmpR op_in_seq (pe_ix ix_tup (pv 0) pe_int (fun _ _ => rfl)) (pe_glob (v := .ref (ga K "PLACES")) (by rfl) T.g_PLACES rfl) (by rfl)) (pe_and (cl D_is_whole (hr.mono (by decide)) (pa_cons (pe_ix ix_tup (pv 0) pe_int (fun _ _ => rfl)) pa_nil)) (pe_one (pe_chain op_le op_lt pe_int (pe_ix ix_tup (pv 0) pe_int (fun _ _ => rfl)) (pe_gv T.g_MOST_COLUMNS))))))))), ?_⟩
    refine ⟨_, rfl, _, _, t, _, _, rfl, .ty _, ty, ki .tup, _, rfl, ?_⟩
    by_cases hn : ∃ ds, th = .d (.tuple ds)
    · obtain ⟨ds, rfl⟩ := hn
      refine iteF ?_
      cases ht with
      | @tup a xs _ hS hA =>
      refine ⟨_, rfl, _, _, rfl, .inr hS, rfl, _, rfl, ?_⟩
      by_cases hl : xs.length = 2
      · match xs, hl with
        | [v0, v1], _ =>
        match ds, hA with
        | [d0, d1], .cons h0 (.cons h1 .nil) =>
        refine iteF ?_
        refine ⟨_, rfl, _, _, 0, v0, rfl, rfl, hS, atI_nat (j := 0) rfl, _, _, _, _, _, rfl, .ty _, Dp.ty h0, kit_d K .str d0, _, rfl, ?_⟩
        by_cases w0 : ∃ z, d0 = .str z
        · obtain ⟨z, rfl⟩ := w0
          cases h0
          refine iteF ?_
          have e : isTermT (.d (.tuple [.str z, d1])) = termD z d1 := rfl
          rw [e] at q
          unfold termD at q
          refine ⟨_, rfl, _, _, 0, _, rfl, rfl, hS, atI_nat (j := 0) rfl, rfl, _, rfl, ie (fun c => ?_) (fun c => ?_)⟩
          · rw [if_pos c] at q
            exact ⟨_, rfl, _, _, 1, _, rfl, rfl, hS, atI_nat (j := 1) rfl, v1, .d d1, rfl, h1, q⟩
          · rw [c, if_neg Bool.false_ne_true] at q
            refine ⟨_, rfl, _, _, 0, _, rfl, rfl, hS, atI_nat (j := 0) rfl, _, _, rfl, .inr (T.t_PLACES _), rfl, rfl, _, rfl, ie (fun c1 => ?_) (fun c1 => ?_)⟩
            · have c1' : inV (.str z) plV = true := c1
              rw [c1', Bool.true_and] at q
              refine ⟨_, rfl, _, _, 1, _, rfl, rfl, hS, atI_nat (j := 1) rfl, v1, .d d1, rfl, h1, _, rfl, ?_⟩
              rw [isWholeT_d]
              by_cases w1 : ∃ b, d1 = .int b
              · obtain ⟨b, rfl⟩ := w1
                cases h1
                refine iteT ?_
                have q : Q (.bl (decide (0 ≤ b) && decide (b < 3))) H := q
                refine ⟨_, rfl, _, _, 1, _, rfl, rfl, hS, atI_nat (j := 1) rfl, _, _, rfl, rfl, _, rfl, ie (fun c2 => ?_) (fun c2 => ?_)⟩
                · rw [c2, Bool.true_and] at q
                  exact ⟨_, _, rfl, rfl, q⟩
                · rw [c2] at q
                  exact q
              · have e2 : isWholeD d1 = false := by
                  cases d1 <;> first | rfl | exact absurd ⟨_, rfl⟩ w1
                rw [e2]
                have e3 : colD d1 = false := by
                  cases d1 <;> first | rfl | exact absurd ⟨_, rfl⟩ w1
                rw [e3] at q
                exact q
            · have c1' : inV (.str z) plV = false := c1
              rw [c1', Bool.false_and] at q
              exact q
        · have e2 : isTy .str d0 = false := by
            cases d0 <;> first | rfl | exact absurd ⟨_, rfl⟩ w0
          rw [e2]
          have e : isTermT (.d (.tuple [d0, d1])) = false := by
            cases d0 <;> first | rfl | exact absurd ⟨_, rfl⟩ w0
          rw [e] at q
          exact q
      · have e2 : decide (V.int (xs.length : Int) = V.int 2) = false := decide_eq_false fun z => hl (by injection z; omega)
        rw [e2]
        have hdl : ds.length ≠ 2 := by
          rw [← DpAll.length hA]
          exact hl
        have e : isTermT (.d (.tuple ds)) = false := by
          match ds, hdl with
          | [], _ => rfl
          | [_], _ => simp [isTermT, isTermD]
          | [_, _], h => exact absurd rfl h
          | _ :: _ :: _ :: _, _ => simp [isTermT, isTermD]
        rw [e] at q
        exact q
    · have e1 : th.is .tup = false := by
        cases th with
        | o => rfl
        | d d => cases d <;> first | rfl | exact absurd ⟨_, rfl⟩ hn
      rw [e1]
      have e : isTermT th = false := by
        cases th with
        | o => rfl
        | d d => cases d <;> first | rfl | exact absurd ⟨_, rfl⟩ hn
      rw [e] at q
      exact q
/-! is_atom -/
def isAtomD : PyData → Bool
  | .tuple [.str z, d1, d2] => inV (.str z) sgV && (isTermD d1 && isTermD d2)
  | _ => false
def isAtomT : Th → Bool
  | Th.d x => isAtomD x
  | Th.o => false
def spIsAtom (K : PySem.W.Frag) : Sp := fun vs H Q _ => ∃ v th, vs = [v] ∧ ThOk K H v th ∧ Q (.bl (isAtomT th)) H
theorem d_is_atom (T : Txt K mg) : Dn P w K mg base CX0 4 "is_atom" (spIsAtom K) := by
  obtain ⟨fd, F⟩ := T.f_is_atom
  have D_is_term := d_is_term (P := P) (w := w) (base := base) T
  refine dnN T.g_is_atom F (fun _ _ _ _ _ _ us hl => match us, hl with | [_], _ => rfl) sc_is_atom (fun vs H Q E h => ?_) (fun cdv A outer s H vs Q E hr h => ?_)
  · obtain ⟨v, th, rfl, _⟩ := h
    rfl
  · obtain ⟨v, th, rfl, ht, q⟩ := h
    obtain ⟨t, ty, ki⟩ := ht.ty
    refine ⟨_, PSs.nox (pss_cons (ps_if (PW.pt (pw_or (pt_not (pt_val (pe_callB call_isi (by rfl) T.z_isinstance (by decide +kernel) (pa_cons (pv 0) (pa_cons (pe_bltn (v := .ty "tuple") (by rfl) T.z_tuple (by decide +kernel) rfl) pa_nil))))) (pw_or (pt_cmpR op_ne (pe_callB call_len_seq (by rfl) T.z_len (by decide +kernel) (pa_cons (pv 0) pa_nil)) pe_int (nomark _)) (pw_or1 (pt_not (pt_val (pe_callB call_isi (by rfl) T.z_isinstance (by decide +kernel) (pa_cons (pe_ix ix_tup (pv 0) pe_int (fun _ _ => rfl)) (pa_cons (pe_bltn (v := .ty "str") (by rfl) T.z_str (by decide +kernel) rfl) pa_nil))))))))) (pss_one (ps_ret pe_bl)) pss_nil)
      (pss_one (ps_ret (pe_and (pe_cmpR op_in_seq (pe_ix ix_tup (pv 0) pe_int (fun _ _ => rfl)) (pe_glob (v := .ref (ga K "SIGNS")) (by rfl) T.g_SIGNS rfl) (by rfl)) (pe_and (cl D_is_term (hr.mono (by decide)) (pa_cons (pe_ix ix_tup (pv 0) pe_int (fun _ _ => rfl)) pa_nil)) (pe_one (cl D_is_term (hr.mono (by decide)) (pa_cons (pe_ix ix_tup (pv 0) pe_int (fun _ _ => rfl)) pa_nil)))))))), ?_⟩
    refine ⟨_, rfl, _, _, t, _, _, rfl, .ty _, ty, ki .tup, _, rfl, ?_⟩
    by_cases hn : ∃ ds, th = .d (.tuple ds)
    · obtain ⟨ds, rfl⟩ := hn
      refine iteF ?_
      cases ht with
      | @tup a xs _ hS hA =>
      refine ⟨_, rfl, _, _, rfl, .inr hS, rfl, _, rfl, ?_⟩
      by_cases hl : xs.length = 3
      · match xs, hl with
        | [v0, v1, v2], _ =>
        match ds, hA with
        | [d0, d1, d2], .cons h0 (.cons h1 (.cons h2 .nil)) =>
        refine iteF ?_
        refine ⟨_, rfl, _, _, 0, v0, rfl, rfl, hS, atI_nat (j := 0) rfl, _, _, _, _, _, rfl, .ty _, Dp.ty h0, kit_d K .str d0, _, rfl, ?_⟩
        by_cases w0 : ∃ z, d0 = .str z
        · obtain ⟨z, rfl⟩ := w0
          cases h0
          refine iteF ?_
          have e : isAtomT (.d (.tuple [.str z, d1, d2])) = (inV (.str z) sgV && (isTermD d1 && isTermD d2)) := rfl
          rw [e] at q
          refine ⟨_, rfl, _, _, 0, _, rfl, rfl, hS, atI_nat (j := 0) rfl, _, _, rfl, .inr (T.t_SIGNS _), rfl, rfl, _, rfl, ie (fun c1 => ?_) (fun c1 => ?_)⟩
          · have c1' : inV (.str z) sgV = true := c1
            rw [c1', Bool.true_and] at q
            refine ⟨_, rfl, _, _, 1, _, rfl, rfl, hS, atI_nat (j := 1) rfl, v1, .d d1, rfl, h1, _, rfl, ie (fun c2 => ?_) (fun c2 => ?_)⟩
            · have c2' : isTermD d1 = true := c2
              rw [c2', Bool.true_and] at q
              exact ⟨_, rfl, _, _, 2, _, rfl, rfl, hS, atI_nat (j := 2) rfl, v2, .d d2, rfl, h2, q⟩
            · have c2' : isTermD d1 = false := c2
              rw [c2', Bool.false_and] at q
              exact q
          · have c1' : inV (.str z) sgV = false := c1
            rw [c1', Bool.false_and] at q
            exact q
        · have e2 : isTy .str d0 = false := by
            cases d0 <;> first | rfl | exact absurd ⟨_, rfl⟩ w0
          rw [e2]
          have e : isAtomT (.d (.tuple [d0, d1, d2])) = false := by
            cases d0 <;> first | rfl | exact absurd ⟨_, rfl⟩ w0
          rw [e] at q
          exact q
      · have e2 : decide (V.int (xs.length : Int) = V.int 3) = false := decide_eq_false fun z => hl (by injection z; omega)
        rw [e2]
        have hdl : ds.length ≠ 3 := by
          rw [← DpAll.length hA]
          exact hl
        have e : isAtomT (.d (.tuple ds)) = false := by
          match ds, hdl with
          | [], _ => rfl
          | [_], _ => simp [isAtomT, isAtomD]
          | [_, _], _ => simp [isAtomT, isAtomD]
          | [_, _, _], h => exact absurd rfl h
          | _ :: _ :: _ :: _ :: _, _ => simp [isAtomT, isAtomD]
        rw [e] at q
        exact q
    · have e1 : th.is .tup = false := by
        cases th with
        | o => rfl
        | d d => cases d <;> first | rfl | exact absurd ⟨_, rfl⟩ hn
      rw [e1]
      have e : isAtomT th = false := by
        cases th with
        | o => rfl
        | d d => cases d <;> first | rfl | exact absurd ⟨_, rfl⟩ hn
      rw [e] at q
      exact q

end
end K03
namespace K03
open PySem PySem.Spec PyProof.Rows L2 He TL EL
section
variable {P : Program} {w : World} {K : PySem.W.Frag} {mg : Str → Option Value} {base : Heap}
/-! Cell -/
def cellF (v1 v2 : V) : List (Str × V) := putF "at" v2 (putF "place" v1 [])
theorem cellF_place (v1 v2 : V) : (cellF v1 v2).lookup ("place" : Str) = some v1 := by
  unfold cellF
  rw [lookup_putF, if_neg (by decide +kernel), lookup_putF, if_pos rfl]
theorem cellF_at (v1 v2 : V) : (cellF v1 v2).lookup ("at" : Str) = some v2 := by
  unfold cellF
  rw [lookup_putF, if_pos rfl]
theorem cellF_term (v1 v2 : V) : (cellF v1 v2).lookup ("term" : Str) = none := by
  unfold cellF
  rw [lookup_putF, if_neg (by decide +kernel), lookup_putF, if_neg (by decide +kernel)]
  rfl
def isCellD : PyData → PyData → Bool
  | .str z, d => inV (.str z) plV && termD z d
  | _, _ => false
abbrev aCell (K : PySem.W.Frag) : Addr := ga K "Cell"
def spInit (K : PySem.W.Frag) : Sp := fun vs H Q E => ∃ x dx v1 v2 d1 d2, vs = [.ref x, v1, v2] ∧ H x = some (.ins (aCell K) dx []) ∧ Dp K H v1 d1 ∧ Dp K H v2 d2 ∧
  (isCellD d1 d2 = false → ∀ H', Same H H' → E (.ref (ga K "NoCell")) none H') ∧
  (isCellD d1 d2 = true → ∀ H', But x H H' → H' x = some (.ins (aCell K) dx (cellF v1 v2)) → Q .non H')
theorem d_init (T : Txt K mg) : FnR P w K mg base (L2.CX P w) 4 (ma K (ga K "Cell") "__init__") (spInit K) := by
  obtain ⟨fd, F⟩ := T.f_Cell___init__
  have D_is_term := d_is_term (P := P) (w := w) (base := base) T
  refine fnN F (fun _ _ _ _ _ _ us hl => match us, hl with | [_, _, _], _ => rfl) sc_Cell___init__ (fun vs H Q E h => ?_) (fun cdv A outer s H vs Q E hr h => ?_)
  · obtain ⟨x, dx, v1, v2, d1, d2, rfl, _⟩ := h
    rfl
  · obtain ⟨x, dx, v1, v2, d1, d2, rfl, hx, h1, h2, hE, hQ⟩ := h
    refine ⟨_, (pss_cons (ps_if (PW.pt (pw_or (pt_not (pt_val (pe_callB call_isi (by rfl) T.z_isinstance (by decide +kernel) (pa_cons (pv 1) (pa_cons (pe_bltn (v := .ty "str") (by rfl) T.z_str (by decide +kernel) rfl) pa_nil))))) (pw_or (pt_cmpR op_notIn_seq (pv 1) (pe_glob (v := .ref (ga K "PLACES")) (by rfl) T.g_PLACES rfl) (by rfl)) (pw_or1 (pt_not (pt_val (cl D_is_term (hr.mono (by decide)) (pa_cons (pe_tup (pa_cons (pv 1) (pa_cons (pv 2) pa_nil))) pa_nil)))))))) (pss_one (rs (by rfl) (takes_of rfl rfl rfl rfl) T.x_NoCell (by rfl))) pss_nil)
      (pss_cons (ps_fld (pv 0) (pv 1) rfl)
      (pss_one (ps_fld (pv 0) (pv 2) rfl)))), ?_⟩
    refine ⟨_, rfl, _, _, _, _, _, rfl, .ty _, Dp.ty h1, kit_d K .str d1, _, rfl, ?_⟩
    by_cases w0 : ∃ z, d1 = .str z
    · obtain ⟨z, rfl⟩ := w0
      cases h1
      refine iteF ?_
      refine ⟨_, rfl, _, _, rfl, .inr (T.t_PLACES _), rfl, rfl, _, rfl, ie (fun c => ?_) (fun c => ?_)⟩
      · have c' : (!inV (.str z) plV) = true := c
        refine hE ?_ H (.refl _)
        show (inV (.str z) plV && termD z d2) = false
        cases hv : inV (.str z) plV with
        | false => rfl
        | true => rw [hv] at c'; cases c'
      · have c' : (!inV (.str z) plV) = false := c
        have hv : inV (.str z) plV = true := by
          cases hv : inV (.str z) plV with
          | true => rfl
          | false => rw [hv] at c'; cases c'
        refine ⟨_, rfl, _, rfl, (by show 2 ≤ sizeLine; decide), fun p np => ?_⟩
        generalize eH1 : upd H p _ = H1
        have s1 : Same H H1 := eH1 ▸ same_upd np
        have h1 : H1 p = some _ := eH1 ▸ upd_same
        have e : isTermT (.d (.tuple [.str z, d2])) = termD z d2 := rfl
        refine ⟨_, .d (.tuple [.str z, d2]), rfl, .tup (SqT.of h1) (.cons (.str _) (.cons (Dp.same s1 h2) .nil)), _, rfl, ?_⟩
        rw [e]
        have ec : isCellD (.str z) d2 = termD z d2 := by
          show (inV (.str z) plV && termD z d2) = _
          rw [hv, Bool.true_and]
        cases ht : termD z d2 with
        | false =>
          refine iteT ?_
          exact hE (by rw [ec, ht]) H1 s1
        | true =>
          refine iteF ?_
          refine ⟨_, rfl, _, rfl, _, _, _, _, rfl, s1 _ _ hx, T.o_Cell.cl, T.n_Cell_place, (by decide), ?_⟩
          refine ⟨_, rfl, _, rfl, _, _, _, _, rfl, upd_same, T.o_Cell.cl, T.n_Cell_at, (by show 1 < 1000; decide), ?_⟩
          refine hQ (by rw [ec, ht]) _ ?_ upd_same
          exact ((But.of s1).trans but_upd).trans but_upd
    · have e2 : isTy .str d1 = false := by
        cases d1 <;> first | rfl | exact absurd ⟨_, rfl⟩ w0
      rw [e2]
      refine iteT ?_
      refine hE ?_ H (.refl _)
      cases d1 <;> first | rfl | exact absurd ⟨_, rfl⟩ w0
def spTermOf (K : PySem.W.Frag) : Sp := fun vs H Q _ => ∃ x dx v1 v2 d1 d2, vs = [.ref x] ∧ H x = some (.ins (aCell K) dx (cellF v1 v2)) ∧ Dp K H v1 d1 ∧ Dp K H v2 d2 ∧ ∀ p H', Same H H' → Dp K H' (.ref p) (.tuple [d1, d2]) → Q (.ref p) H'
theorem d_cterm (T : Txt K mg) : FnR P w K mg base CX0 1 (ma K (ga K "Cell") "term") (spTermOf K) := by
  obtain ⟨fd, F⟩ := T.f_Cell_term
  refine fnN F (fun _ _ _ _ _ _ us hl => match us, hl with | [_], _ => rfl) sc_Cell_term (fun vs H Q E h => ?_) (fun cdv A outer s H vs Q E hr h => ?_)
  · obtain ⟨x, dx, v1, v2, d1, d2, rfl, _⟩ := h
    rfl
  · obtain ⟨x, dx, v1, v2, d1, d2, rfl, hx, h1, h2, hQ⟩ := h
    refine ⟨_, PSs.nox (pss_one (ps_ret (pe_tup (pa_cons (pe_fld (pv 0) rfl) (pa_cons (pe_fld (pv 0) rfl) pa_nil))))), ?_⟩
    refine ⟨_, rfl, _, _, _, _, _, rfl, hx, T.o_Cell.cl, T.n_Cell_place, cellF_place _ _, _, rfl, _, _, _, _, _, rfl, hx, T.o_Cell.cl, T.n_Cell_at, cellF_at _ _, (by show 2 ≤ sizeLine; decide), fun p np => ?_⟩
    generalize eH1 : upd H p _ = H1
    have s1 : Same H H1 := eH1 ▸ same_upd np
    have h1' : H1 p = some _ := eH1 ▸ upd_same
    exact hQ p H1 s1 (.tup (SqT.of h1') (.cons (Dp.same s1 h1) (.cons (Dp.same s1 h2) .nil)))
def ofD : PyData → Option PyData
  | .int i => some (.tuple [.str "value", .tuple [.int i, .int 1]])
  | d => if isValD d = true then some (.tuple [.str "value", d]) else none
def spOf (K : PySem.W.Frag) : Sp := fun vs H Q E => ∃ v, vs = [v] ∧ ((∃ x dx v1 v2 d1 d2, v = .ref x ∧ H x = some (.ins (aCell K) dx (cellF v1 v2)) ∧ Dp K H v1 d1 ∧ Dp K H v2 d2 ∧ ∀ p H', Same H H' → Dp K H' (.ref p) (.tuple [d1, d2]) → Q (.ref p) H') ∨
  ∃ d, Dp K H v d ∧ (ofD d = none → E (.ref (ga K "NoCell")) none H) ∧ ∀ r, ofD d = some r → ∀ p H', Same H H' → Dp K H' (.ref p) r → Q (.ref p) H')
theorem d_of (T : Txt K mg) : FnR P w K mg base (L2.CX P w) 3 (He5.wf K (ga K "Cell") "staticmethod" "of") (spOf K) := by
  obtain ⟨fd, F⟩ := T.f_Cell_of
  have D_is_whole := d_is_whole (P := P) (w := w) (base := base) T
  have D_is_value := d_is_value (P := P) (w := w) (base := base) T
  refine fnN F (fun _ _ _ _ _ _ us hl => match us, hl with | [_], _ => rfl) sc_Cell_of (fun vs H Q E h => ?_) (fun cdv A outer s H vs Q E hr h => ?_)
  · obtain ⟨v, rfl, _⟩ := h
    rfl
  · obtain ⟨v, rfl, h⟩ := h
    refine ⟨_, (pss_cons (ps_if (pt_val (pe_callB call_isi (by rfl) T.z_isinstance (by decide +kernel) (pa_cons (pv 0) (pa_cons (pe_glob (v := .ref (ga K "Cell")) (by rfl) T.g_Cell rfl) pa_nil)))) (pss_one (ps_ret (pe_tup (pa_cons (pe_fld (pv 0) rfl) (pa_cons (pe_fld (pv 0) rfl) pa_nil))))) pss_nil)
      (pss_cons (ps_if (pt_val (cl D_is_whole (hr.mono (by decide)) (pa_cons (pv 0) pa_nil))) (pss_one (ps_ret (pe_tup (pa_cons pe_str (pa_cons (pe_tup (pa_cons (pv 0) (pa_cons pe_int pa_nil))) pa_nil))))) pss_nil)
      (pss_cons (ps_if (pt_val (cl D_is_value (hr.mono (by decide)) (pa_cons (pv 0) pa_nil))) (pss_one (ps_ret (pe_tup (pa_cons pe_str (pa_cons (pv 0) pa_nil))))) pss_nil)
      (pss_one (rs (by rfl) (takes_of rfl rfl rfl rfl) T.x_NoCell (by rfl)))))), ?_⟩
    rcases h with ⟨x, dx, v1, v2, d1, d2, rfl, hx, h1, h2, hQ⟩ | ⟨d, hd, hE, hQ⟩
    · refine ⟨_, rfl, _, _, _, _, _, rfl, .own _, T.o_Cell.ty hx, T.o_Cell.self, _, rfl, iteT ?_⟩
      refine ⟨_, rfl, _, _, _, _, _, rfl, hx, T.o_Cell.cl, T.n_Cell_place, cellF_place _ _, _, rfl, _, _, _, _, _, rfl, hx, T.o_Cell.cl, T.n_Cell_at, cellF_at _ _, (by show 2 ≤ sizeLine; decide), fun p np => ?_⟩
      generalize eH1 : upd H p _ = H1
      have s1 : Same H H1 := eH1 ▸ same_upd np
      have h1' : H1 p = some _ := eH1 ▸ upd_same
      exact hQ p H1 s1 (.tup (SqT.of h1') (.cons (Dp.same s1 h1) (.cons (Dp.same s1 h2) .nil)))
    · refine ⟨_, rfl, _, _, _, _, _, rfl, .own _, Dp.ty hd, T.o_Cell.isD d, _, rfl, iteF ?_⟩
      refine ⟨_, rfl, v, .d d, rfl, hd, _, rfl, ?_⟩
      rw [isWholeT_d]
      by_cases w1 : ∃ i, d = .int i
      · obtain ⟨i, rfl⟩ := w1
        cases hd
        refine iteT ?_
        refine ⟨_, rfl, (by show 2 ≤ sizeLine; decide), fun p np => ?_⟩
        generalize eH1 : upd H p _ = H1
        have s1 : Same H H1 := eH1 ▸ same_upd np
        have h1 : H1 p = some _ := eH1 ▸ upd_same
        refine ⟨(by show 2 ≤ sizeLine; decide), fun p2 np2 => ?_⟩
        generalize eH2 : upd H1 p2 _ = H2
        have s2 : Same H1 H2 := eH2 ▸ same_upd np2
        have h2 : H2 p2 = some _ := eH2 ▸ upd_same
        exact hQ _ rfl p2 H2 (s1.trans s2) (.tup (SqT.of h2) (.cons (.str _) (.cons (.tup (SqT.of (s2 _ _ h1)) (.cons (.int _) (.cons (.int _) .nil))) .nil)))
      · have e2 : isWholeD d = false := by
          cases d <;> first | rfl | exact absurd ⟨_, rfl⟩ w1
        rw [e2]
        refine iteF ?_
        have eo : ofD d = if isValD d = true then some (.tuple [.str "value", d]) else none := by
          cases d <;> first | rfl | exact absurd ⟨_, rfl⟩ w1
        refine ⟨_, rfl, v, .d d, rfl, hd, _, rfl, ie (fun c => ?_) (fun c => ?_)⟩
        · have c' : isValD d = true := c
          refine ⟨_, rfl, (by show 2 ≤ sizeLine; decide), fun p np => ?_⟩
          generalize eH1 : upd H p _ = H1
          have s1 : Same H H1 := eH1 ▸ same_upd np
          have h1 : H1 p = some _ := eH1 ▸ upd_same
          exact hQ _ (by rw [eo, if_pos c']) p H1 s1 (.tup (SqT.of h1) (.cons (.str _) (.cons (Dp.same s1 hd) .nil)))
        · have c' : isValD d = false := c
          exact hE (by rw [eo, c', if_neg Bool.false_ne_true])
/-! _law_made, _law_term_of, _law_is -/
def spMade (K : PySem.W.Frag) : Sp := fun vs H Q _ => ∃ v1 v2 d1 d2, vs = [v1, v2] ∧ Dp K H v1 d1 ∧ Dp K H v2 d2 ∧ (isCellD d1 d2 = false → ∀ H', Same H H' → Q .non H') ∧
  (isCellD d1 d2 = true → ∀ x dx H', Same H H' → H' x = some (.ins (aCell K) dx (cellF v1 v2)) → Q (.ref x) H')
theorem d_made (T : Txt K mg) : Dn P w K mg base CX0 6 "_law_made" (spMade K) := by
  obtain ⟨fd, F⟩ := T.f__law_made
  have D_init := d_init (P := P) (w := w) (base := base) T
  refine dnN T.g__law_made F (fun _ _ _ _ _ _ us hl => match us, hl with | [_, _], _ => rfl) sc__law_made (fun vs H Q E h => ?_) (fun cdv A outer s H vs Q E hr h => ?_)
  · obtain ⟨v1, v2, d1, d2, rfl, _⟩ := h
    rfl
  · obtain ⟨v1, v2, d1, d2, rfl, h1, h2, hN, hQ⟩ := h
    refine ⟨_, PSs.nox (pss_cons (ps_try_only (by rfl) (by rfl) ⟨rfl, by decide, .inl T.x_NoCell.g⟩ takes0 (fun W pn xe tk po => (pss_one (ps_set (i := 2) sc__law_made.nd rfl (.inl rfl) (pe_makeE T.m_Cell D_init (hr.mono (by decide)) T.g_Cell (pxx tk) (pa_cons (pv 0) (pa_cons (pv 1) pa_nil))))))
      (fun a oe cls d pn hz hf => (pss_one (ps_ret pe_non))))
      (pss_one (ps_ret (pv 2)))), ?_⟩
    refine ⟨_, rfl, _, rfl, fun x dx nx ndx hne => ?_⟩
    have s0 : Same H (upd (upd H dx (.own x)) x (.ins (aCell K) dx [])) := (same_upd ndx).trans (same_upd (by rw [upd_ne (Ne.symm hne)]; exact nx))
    refine ⟨x, dx, v1, v2, d1, d2, rfl, upd_same, Dp.same s0 h1, Dp.same s0 h2, fun e H' s' => ?_, fun e H' b' hx' => ?_⟩
    · refine ⟨true, T.e_NoCell_NoCell, fun _ a _ => ?_, fun z => by cases z⟩
      exact hN e _ (s0.trans s')
    · refine ⟨rfl, _, rfl, hQ e x dx H' (fun b o ho => b' b o (s0 b o ho) (ne_of_none ho nx)) hx'⟩
def spTry (K : PySem.W.Frag) : Sp := fun vs H Q _ => ∃ v d, vs = [v] ∧ Dp K H v d ∧ ofD d = none ∧ ∀ p H', Same H H' → Dp K H' (.ref p) (.list [.str "refused", .bool true]) → Q (.ref p) H'
theorem d_try (T : Txt K mg) : Dn P w K mg base CX0 5 "_law_term_of" (spTry K) := by
  obtain ⟨fd, F⟩ := T.f__law_term_of
  have D_of := d_of (P := P) (w := w) (base := base) T
  refine dnN T.g__law_term_of F (fun _ _ _ _ _ _ us hl => match us, hl with | [_], _ => rfl) sc__law_term_of (fun vs H Q E h => ?_) (fun cdv A outer s H vs Q E hr h => ?_)
  · obtain ⟨v, d, rfl, _⟩ := h
    rfl
  · obtain ⟨v, d, rfl, hd, ho, hQ⟩ := h
    refine ⟨_, PSs.nox (pss_cons (ps_try_as (i := 2) (by rfl) (by rfl) sc__law_term_of.nd rfl (by rfl) ⟨rfl, by decide, .inl T.x_NoCell.g⟩ takes0 (fun W pn xe tk po => (pss_one (ps_set (i := 1) sc__law_term_of.nd rfl (.inl rfl) (pe_smE (pe_glob (v := .ref (ga K "Cell")) (by rfl) T.g_Cell rfl) T.s_Cell_of D_of (hr.mono (by decide)) (pxx tk) (pa_cons (pv 0) pa_nil)))))
      (fun a oe cls d pn hz hf => (pss_one (ps_ret (pe_lst (pa_cons pe_str (pa_cons (pe_callB (call_isX _ T.c_NoCell hz hf) (by rfl) T.z_isinstance (by decide +kernel) (pa_cons (pv 2) (pa_cons (pe_bltn (v := .ty "ValueError") (by rfl) T.z_ValueError (by decide +kernel) rfl) pa_nil))) pa_nil)))))))
      (pss_one (ps_ret (pv 1)))), ?_⟩
    refine ⟨rfl, _, rfl, v, rfl, .inr ⟨d, hd, fun _ => ?_, fun r er => by rw [ho] at er; cases er⟩⟩
    refine ⟨true, T.e_NoCell_NoCell, fun _ a _ => ?_, fun z => by cases z⟩
    refine ⟨_, rfl, rfl, rfl, _, _, _, rfl, fun u r => r, T.k_NoCell_ValueError, (by show 2 ≤ sizeLine; decide), fun p np => ?_⟩
    generalize eH1 : upd H p _ = H1
    have s1 : Same H H1 := eH1 ▸ same_upd np
    have h1 : H1 p = some _ := eH1 ▸ upd_same
    exact hQ p H1 s1 (.lst (SqL.of h1) (.cons (.str _) (.cons (.bl _) .nil)))
def spIs : Sp := fun vs H Q _ => ∃ a b : Bool, vs = [.bl a, .bl b] ∧ Q (.bl (decide (V.bl a = V.bl b))) H
theorem d_is (T : Txt K mg) : Dn P w K mg base CX0 1 "_law_is" spIs := by
  obtain ⟨fd, F⟩ := T.f__law_is
  refine dnN T.g__law_is F (fun _ _ _ _ _ _ us hl => match us, hl with | [_, _], _ => rfl) sc__law_is (fun vs H Q E h => ?_) (fun cdv A outer s H vs Q E hr h => ?_)
  · obtain ⟨a, b, rfl, _⟩ := h
    rfl
  · obtain ⟨a, b, rfl, q⟩ := h
    refine ⟨_, PSs.nox (pss_one (ps_ret (pe_and (pe_callB call_isi (by rfl) T.z_isinstance (by decide +kernel) (pa_cons (pv 0) (pa_cons (pe_bltn (v := .ty "bool") (by rfl) T.z_bool (by decide +kernel) rfl) pa_nil))) (pe_one (pe_cmpR op_eq (pv 0) (pv 1) (nomark _)))))), ?_⟩
    refine ⟨_, rfl, _, _, _, _, _, rfl, .ty _, Dp.ty (.bl a), kit_d K .bl (.bool a), _, rfl, iteT ?_⟩
    exact ⟨_, rfl, _, rfl, rfl, q⟩
end
end K03
namespace K03
open PySem PySem.Spec PyProof.Rows L2 He TL EL
/-! data that the source's list is no part of -/
mutual
def noL : PyData → Bool
  | .list ds => decide (ds.length < 4) && noLs ds
  | .tuple ds => noLs ds
  | _ => true
def noLs : List PyData → Bool
  | [] => true
  | d :: ds => noL d && noLs ds
end
section
variable {K : PySem.W.Frag} {H H' : Hp} {p l : Addr}
theorem Src.head (h : Src H p l) : ∃ a b c d, H p = some (.lst [a, b, c, d]) := by
  obtain ⟨ns, i, c, r, h1, _⟩ := h
  exact ⟨_, _, _, _, h1⟩
theorem But.seqL {a : Addr} {xs : List V} (S : Src H p l) (b : But p H H') (hl : xs.length < 4) (h : SqL K H a xs) : SqL K H' a xs := by
  obtain ⟨x1, x2, x3, x4, hp⟩ := Src.head S
  rcases h with (h | ⟨o, h⟩) | h
  · refine .inl (.inl (b _ _ h fun e => ?_))
    rw [e, hp] at h
    injection h with h
    injection h with h
    rw [← h] at hl
    exact absurd hl (by simp)
  · refine .inl (.inr ⟨o, b _ _ h fun e => ?_⟩)
    rw [e, hp] at h
    injection h with h
    cases h
  · exact .inr h
mutual
theorem Dp.but (S : Src H p l) (b : But p H H') : ∀ {d : PyData} {v : V}, noL d = true → Dp K H v d → Dp K H' v d
  | _, _, _, .non => .non
  | _, _, _, .bl b => .bl b
  | _, _, _, .int i => .int i
  | _, _, _, .str x => .str x
  | _, _, n, .lst h a => by
    obtain ⟨n1, n2⟩ := ba (show (decide _ && noLs _) = true from n)
    refine .lst (But.seqL S b ?_ h) (DpAll.but S b n2 a)
    rw [DpAll.length a]
    exact of_decide_eq_true n1
  | _, _, n, .tup h a => .tup (But.seqT b (Src.lst S) h) (DpAll.but S b n a)
theorem DpAll.but (S : Src H p l) (b : But p H H') : ∀ {ds : List PyData} {vs : List V}, noLs ds = true → DpAll K H vs ds → DpAll K H' vs ds
  | _, _, _, .nil => .nil
  | _, _, n, .cons a c => by
    obtain ⟨n1, n2⟩ := ba (show (noL _ && noLs _) = true from n)
    exact .cons (Dp.but S b n1 a) (DpAll.but S b n2 c)
end
theorem atI_ex {xs : List V} {n : Int} (h0 : 0 ≤ n) (h1 : n < xs.length) : ∃ v, v ∈ xs ∧ atI xs n = some v := by
  obtain ⟨k, rfl⟩ := Int.eq_ofNat_of_zero_le h0
  have hk : k < xs.length := by omega
  exact ⟨xs[k], List.getElem_mem hk, atI_nat (List.getElem?_eq_getElem hk)⟩
end
section
variable {P : Program} {w : World} {K : PySem.W.Frag} {mg : Str → Option Value} {base : Heap}
/-! _law_term -/
def spTerm (K : PySem.W.Frag) : Sp := fun vs H Q _ => ∃ p l, vs = [.ref p] ∧ Src H p l ∧ ∀ o t a b H', Src H' p l → But p H H' → H' o = some (.tup [.ref t, .bl (isTermD (.tuple [a, b]))]) → Dp K H' (.ref t) (.tuple [a, b]) → noL (.tuple [a, b]) = true → Q (.ref o) H'
theorem d_term (T : Txt K mg) : Dn P w K mg base CX0 2 "_law_term" (spTerm K) := by
  obtain ⟨fd, F⟩ := T.f__law_term
  have D__law_draw := d_draw (P := P) (w := w) (base := base) T
  have D__law_divisor := d_divisor (P := P) (w := w) (base := base) T
  refine dnN T.g__law_term F (fun _ _ _ _ _ _ us hl => match us, hl with | [_], _ => rfl) sc__law_term (fun vs H Q E h => ?_) (fun cdv A outer s H vs Q E hr h => ?_)
  · obtain ⟨p, l, rfl, _⟩ := h
    rfl
  · obtain ⟨p, l, rfl, S0, hQ⟩ := h
    refine ⟨_, PSs.nox (pss_cons (ps_set (i := 1) sc__law_term.nd rfl (.inl rfl) (pe_ix ix_list (pe_lst (pa_cons pe_str (pa_cons pe_str (pa_cons pe_str (pa_cons pe_str (pa_cons pe_str (pa_cons pe_str (pa_cons pe_str pa_nil)))))))) (cl D__law_draw (hr.mono (by decide)) (pa_cons (pv 0) (pa_cons pe_int pa_nil))) (fun _ _ => rfl)))
      (pss_cons (ps_set (i := 2) sc__law_term.nd rfl (.inl rfl) (pe_op op_sub (cl D__law_draw (hr.mono (by decide)) (pa_cons (pv 0) (pa_cons pe_int pa_nil))) pe_int))
      (pss_cons (ps_if (pt_cmpR op_ne (pv 1) pe_str (nomark _)) (pss_one (ps_ret (pe_tup (pa_cons (pe_tup (pa_cons (pv 1) (pa_cons (pv 2) pa_nil))) (pa_cons (pe_and (pe_cmpR op_in_seq (pv 1) (pe_tup (pa_cons pe_str (pa_cons pe_str (pa_cons pe_str pa_nil)))) (by rfl)) (pe_one (pe_chain op_le op_le pe_int (pv 2) pe_int))) pa_nil))))) pss_nil)
      (pss_cons (ps_set (i := 3) sc__law_term.nd rfl (.inl rfl) (pe_op op_sub (cl D__law_draw (hr.mono (by decide)) (pa_cons (pv 0) (pa_cons pe_int pa_nil))) pe_int))
      (pss_cons (ps_set (i := 4) sc__law_term.nd rfl (.inl rfl) (pe_op op_sub (cl D__law_draw (hr.mono (by decide)) (pa_cons (pv 0) (pa_cons pe_int pa_nil))) pe_int))
      (pss_cons (ps_if (pt_cmpR op_eq (cl D__law_draw (hr.mono (by decide)) (pa_cons (pv 0) (pa_cons pe_int pa_nil))) pe_int (nomark _)) (pss_one (ps_ret (pe_tup (pa_cons (pe_tup (pa_cons (pv 1) (pa_cons (pv 3) pa_nil))) (pa_cons pe_bl pa_nil))))) pss_nil)
      (pss_one (ps_ret (pe_tup (pa_cons (pe_tup (pa_cons (pv 1) (pa_cons (pe_tup (pa_cons (pv 3) (pa_cons (pv 4) pa_nil))) pa_nil))) (pa_cons (pe_and (pe_cmpR op_gt (pv 4) pe_int (nomark _)) (pe_one (pe_cmpR op_eq (cl D__law_divisor (hr.mono (by decide)) (pa_cons (pv 3) (pa_cons (pv 4) pa_nil))) pe_int (nomark _)))) pa_nil))))))))))), ?_⟩
    obtain ⟨xs0, hp0⟩ := Src.lst S0
    refine ⟨(by show 7 ≤ sizeLine; decide), fun l0 n0 => ?_⟩
    generalize eH1 : upd H l0 _ = H1
    have s1 : Same H H1 := eH1 ▸ same_upd n0
    have h1 : H1 l0 = some _ := eH1 ▸ upd_same
    have ne0 : l0 ≠ p := fun e => by rw [e, hp0] at n0; cases n0
    refine ⟨_, rfl, p, l, 7, rfl, by decide, by decide, S0.same s1, fun n H2 hn0 hn1 S2 b2 => ?_⟩
    obtain ⟨v, hv, hat⟩ := atI_ex (xs := [.str "old", .str "first", .str "second", .str "value", .str "third", .str "Old", .str ""]) hn0 hn1
    have hz : ∃ z, v = .str z := by
      simp only [List.mem_cons, List.not_mem_nil, or_false] at hv
      rcases hv with rfl | rfl | rfl | rfl | rfl | rfl | rfl <;> exact ⟨_, rfl⟩
    obtain ⟨z, rfl⟩ := hz
    refine ⟨_, _, n, _, rfl, rfl, SqL.of (b2 _ _ h1 ne0), hat, ?_⟩
    refine ⟨_, rfl, p, l, 6, rfl, by decide, by decide, S2, fun c H3 hc0 hc1 S3 b3 => ?_⟩
    refine ⟨_, _, rfl, rfl, ?_⟩
    have bb : But p H H3 := ((But.of s1).trans b2).trans b3
    refine ⟨_, rfl, rfl, _, rfl, ie (fun cz => ?_) (fun cz => ?_)⟩
    · have cz' : decide (V.str z = V.str "value") = false := by
        cases hd : decide (V.str z = V.str "value") with
        | false => rfl
        | true => rw [hd] at cz; cases cz
      refine ⟨_, rfl, _, rfl, (by show 2 ≤ sizeLine; decide), fun t nt => ?_⟩
      generalize eH4 : upd H3 t _ = H4
      have s4 : Same H3 H4 := eH4 ▸ same_upd nt
      have h4 : H4 t = some _ := eH4 ▸ upd_same
      refine ⟨_, rfl, (by show 3 ≤ sizeLine; decide), fun t2 nt2 => ?_⟩
      generalize eH5 : upd H4 t2 _ = H5
      have s5 : Same H4 H5 := eH5 ▸ same_upd nt2
      have h5 : H5 t2 = some _ := eH5 ▸ upd_same
      have et : isTermD (.tuple [.str z, .int (c - 1)]) = (inV (.str z) plV && (decide (0 ≤ c - 1) && decide (c - 1 ≤ 2))) := by
        show termD z (.int (c - 1)) = _
        unfold termD
        rw [cz', if_neg Bool.false_ne_true]
        show (inV (.str z) plV && (decide (0 ≤ c - 1) && decide (c - 1 < 3))) = _
        have : decide (c - 1 < 3) = decide (c - 1 ≤ 2) := decide_eq_decide.mpr (by omega)
        rw [this]
      refine ⟨_, _, rfl, .inr (SqT.of h5), rfl, rfl, _, rfl, ?_⟩
      have fin : ∀ b : Bool, b = isTermD (.tuple [.str z, .int (c - 1)]) → ([V.ref t, V.bl b]).length ≤ sizeLine ∧ ∀ p_1, H5 p_1 = none → Q (.ref p_1) (upd H5 p_1 (.tup [V.ref t, V.bl b])) := fun b hb => by
        refine ⟨(by show 2 ≤ sizeLine; decide), fun o no => ?_⟩
        generalize eH6 : upd H5 o _ = H6
        have s6 : Same H5 H6 := eH6 ▸ same_upd no
        have h6 : H6 o = some _ := eH6 ▸ upd_same
        subst hb
        refine hQ o t _ _ H6 (((S3.same s4).same s5).same s6) (bb.trans (But.of (s4.trans (s5.trans s6)))) h6 (.tup (SqT.of (s6 _ _ (s5 _ _ h4))) (.cons (.str _) (.cons (.int _) .nil))) rfl
      refine ie (fun c1 => ?_) (fun c1 => ?_)
      · have c1' : inV (.str z) plV = true := c1
        rw [c1', Bool.true_and] at et
        refine ⟨_, rfl, _, _, rfl, rfl, _, rfl, ie (fun c2 => ?_) (fun c2 => ?_)⟩
        · rw [c2, Bool.true_and] at et
          exact ⟨_, _, rfl, rfl, fin _ et.symm⟩
        · rw [c2, Bool.false_and] at et
          exact fin _ et.symm
      · have c1' : inV (.str z) plV = false := c1
        rw [c1', Bool.false_and] at et
        exact fin _ et.symm
    · have cz' : decide (V.str z = V.str "value") = true := by
        cases hd : decide (V.str z = V.str "value") with
        | true => rfl
        | false => rw [hd] at cz; cases cz
      have ez : z = "value" := by
        have := of_decide_eq_true cz'
        injection this
      subst ez
      refine ⟨_, rfl, p, l, 9, rfl, by decide, by decide, S3, fun a H4 _ _ S4 b4 => ?_⟩
      refine ⟨_, _, rfl, rfl, ?_⟩
      refine ⟨_, rfl, p, l, 5, rfl, by decide, by decide, S4, fun b H5 _ _ S5 b5 => ?_⟩
      refine ⟨_, _, rfl, rfl, ?_⟩
      have bb5 : But p H H5 := (bb.trans b4).trans b5
      refine ⟨_, rfl, p, l, 5, rfl, by decide, by decide, S5, fun k H6 _ _ S6 b6 => ?_⟩
      refine ⟨rfl, _, rfl, ie (fun ck => ?_) (fun ck => ?_)⟩
      · refine ⟨_, rfl, _, rfl, (by show 2 ≤ sizeLine; decide), fun t nt => ?_⟩
        generalize eH7 : upd H6 t _ = H7
        have s7 : Same H6 H7 := eH7 ▸ same_upd nt
        have h7 : H7 t = some _ := eH7 ▸ upd_same
        refine ⟨(by show 2 ≤ sizeLine; decide), fun o no => ?_⟩
        generalize eH8 : upd H7 o _ = H8
        have s8 : Same H7 H8 := eH8 ▸ same_upd no
        have h8 : H8 o = some _ := eH8 ▸ upd_same
        exact hQ o t (.str "value") (.int (a - 4)) H8 ((S6.same s7).same s8) ((bb5.trans b6).trans (But.of (s7.trans s8))) h8 (.tup (SqT.of (s8 _ _ h7)) (.cons (.str _) (.cons (.int _) .nil))) rfl
      · refine ⟨_, rfl, _, rfl, _, rfl, (by show 2 ≤ sizeLine; decide), fun t0 nt0 => ?_⟩
        generalize eH7 : upd H6 t0 _ = H7
        have s7 : Same H6 H7 := eH7 ▸ same_upd nt0
        have h7 : H7 t0 = some _ := eH7 ▸ upd_same
        refine ⟨(by show 2 ≤ sizeLine; decide), fun t nt => ?_⟩
        generalize eH8 : upd H7 t _ = H8
        have s8 : Same H7 H8 := eH8 ▸ same_upd nt
        have h8 : H8 t = some _ := eH8 ▸ upd_same
        have et : isTermD (.tuple [.str "value", .tuple [.int (a - 4), .int (b - 1)]]) = (!decide (b - 1 < 1) && decide (cd (a - 4) (b - 1) = 1)) := rfl
        have fin : ∀ bo : Bool, bo = isTermD (.tuple [.str "value", .tuple [.int (a - 4), .int (b - 1)]]) → ([V.ref t, V.bl bo]).length ≤ sizeLine ∧ ∀ p_1, H8 p_1 = none → Q (.ref p_1) (upd H8 p_1 (.tup [V.ref t, V.bl bo])) := fun bo hb => by
          refine ⟨(by show 2 ≤ sizeLine; decide), fun o no => ?_⟩
          generalize eH9 : upd H8 o _ = H9
          have s9 : Same H8 H9 := eH9 ▸ same_upd no
          have h9 : H9 o = some _ := eH9 ▸ upd_same
          subst hb
          exact hQ o t _ _ H9 (((S6.same s7).same s8).same s9) ((bb5.trans b6).trans (But.of (s7.trans (s8.trans s9)))) h9 (.tup (SqT.of (s9 _ _ h8)) (.cons (.str _) (.cons (.tup (SqT.of (s9 _ _ (s8 _ _ h7))) (.cons (.int _) (.cons (.int _) .nil))) .nil))) rfl
        refine ⟨_, rfl, _, _, rfl, rfl, _, rfl, ie (fun c1 => ?_) (fun c1 => ?_)⟩
        · have hb : decide (b - 1 < 1) = false := decide_eq_false (by have := of_decide_eq_true c1; omega)
          rw [hb] at et
          refine ⟨_, rfl, _, rfl, _, _, rfl, ?_⟩
          refine ⟨rfl, fin _ ?_⟩
          rw [et]
          simp
        · have hb : decide (b - 1 < 1) = true := decide_eq_true (by have := of_decide_eq_false c1; omega)
          rw [hb] at et
          exact fin _ et.symm
theorem dp_two {H : Hp} {t : Addr} {a b : PyData} (h : Dp K H (.ref t) (.tuple [a, b])) : ∃ va vb, SqT K H t [va, vb] ∧ Dp K H va a ∧ Dp K H vb b := by
  cases h with
  | @tup _ xs _ hS hA =>
    cases hA with
    | cons ha h2 =>
      cases h2 with
      | cons hb h3 =>
        cases h3
        exact ⟨_, _, hS, ha, hb⟩
/-! _law_odd -/
def spOdd (K : PySem.W.Frag) : Sp := fun vs H Q _ => ∃ p l t a b, vs = [.ref p, .ref t] ∧ Src H p l ∧ Dp K H (.ref t) (.tuple [a, b]) ∧ noL (.tuple [a, b]) = true ∧ ∀ v d H', Src H' p l → But p H H' → Dp K H' v d → isTermD d = false → noL d = true → Q v H'
theorem d_odd (T : Txt K mg) : Dn P w K mg base CX0 2 "_law_odd" (spOdd K) := by
  obtain ⟨fd, F⟩ := T.f__law_odd
  have D__law_draw := d_draw (P := P) (w := w) (base := base) T
  refine dnN T.g__law_odd F (fun _ _ _ _ _ _ us hl => match us, hl with | [_, _], _ => rfl) sc__law_odd (fun vs H Q E h => ?_) (fun cdv A outer s H vs Q E hr h => ?_)
  · obtain ⟨p, l, t, a, b, rfl, _⟩ := h
    rfl
  · obtain ⟨p, l, t, a, b, rfl, S0, hd, hn, hQ⟩ := h
    obtain ⟨na, nb⟩ := ba (show (noL a && noLs [b]) = true from hn)
    obtain ⟨nb, _⟩ := ba (show (noL b && noLs []) = true from nb)
    obtain ⟨xs0, hp0⟩ := Src.lst S0
    obtain ⟨va, vb, hS, ha, hb⟩ := dp_two hd
    refine ⟨_, PSs.nox (pss_cons (ps_set (i := 2) sc__law_odd.nd rfl (.inl rfl) (pe_lst (pa_cons pe_non (pa_cons pe_int (pa_cons pe_str (pa_cons (pe_callTy call_list_of (by rfl) T.z_list (by decide +kernel) (pa_cons (pv 1) pa_nil)) (pa_cons (pe_op op_catT (pv 1) (pe_tup (pa_cons pe_int pa_nil))) (pa_cons (pe_slice sl_tup (pv 1) po_none (po_some pe_int)) (pa_cons (pe_tup (pa_cons (pe_lst pa_nil) (pa_cons pe_int pa_nil))) (pa_cons (pe_tup (pa_cons pe_non pa_nil)) (pa_cons (pe_tup (pa_cons pe_str (pa_cons pe_bl pa_nil))) pa_nil)))))))))))
      (pss_cons (ps_set (i := 2) sc__law_odd.nd rfl (.inl rfl) (pe_op op_cat (pv 2) (pe_lst (pa_cons (pe_tup (pa_cons pe_str (pa_cons (pe_lst (pa_cons pe_int (pa_cons pe_int pa_nil))) pa_nil))) (pa_cons (pe_tup (pa_cons pe_str (pa_cons pe_str pa_nil))) (pa_cons (pe_tup (pa_cons pe_int (pa_cons pe_str pa_nil))) pa_nil))))))
      (pss_one (ps_ret (pe_ix ix_list (pv 2) (cl D__law_draw (hr.mono (by decide)) (pa_cons (pv 0) (pa_cons pe_int pa_nil))) (fun _ _ => rfl)))))), ?_⟩
    refine ⟨_, rfl, _, _, rfl, .inr hS, fun l1 m1 => ?_⟩
    generalize eH1 : upd H l1 _ = H1
    have s1 : Same H H1 := eH1 ▸ same_upd m1
    have h1 : H1 l1 = some _ := eH1 ▸ upd_same
    refine ⟨_, rfl, (by show 1 ≤ sizeLine; decide), fun t2 m2 => ?_⟩
    generalize eH2 : upd H1 t2 _ = H2
    have s2 : Same H1 H2 := eH2 ▸ same_upd m2
    have h2 : H2 t2 = some _ := eH2 ▸ upd_same
    refine ⟨_, _, _, _, rfl, rfl, Same.seqT (s1.trans s2) hS, SqT.of h2, (by simp), (by show 3 ≤ sizeLine; decide), fun z => (by cases z), fun _ t3 m3 => ?_⟩
    generalize eH3 : upd H2 t3 _ = H3
    have s3 : Same H2 H3 := eH3 ▸ same_upd m3
    have h3 : H3 t3 = some _ := eH3 ▸ upd_same
    refine ⟨_, rfl, _, rfl, _, _, rfl, Same.seqT (s1.trans (s2.trans s3)) hS, (by show ¬(HT.sIx 2 0 none = 0 ∧ HT.sIx 2 2 (some 1) = 2); decide), fun t4 m4 => ?_⟩
    generalize eH4 : upd H3 t4 _ = H4
    have s4 : Same H3 H4 := eH4 ▸ same_upd m4
    have h4 : H4 t4 = some _ := eH4 ▸ upd_same
    refine ⟨(by show 0 ≤ sizeLine; decide), fun l5 m5 => ?_⟩
    generalize eH5 : upd H4 l5 _ = H5
    have s5 : Same H4 H5 := eH5 ▸ same_upd m5
    have h5 : H5 l5 = some _ := eH5 ▸ upd_same
    refine ⟨(by show 2 ≤ sizeLine; decide), fun t6 m6 => ?_⟩
    generalize eH6 : upd H5 t6 _ = H6
    have s6 : Same H5 H6 := eH6 ▸ same_upd m6
    have h6 : H6 t6 = some _ := eH6 ▸ upd_same
    refine ⟨(by show 1 ≤ sizeLine; decide), fun t7 m7 => ?_⟩
    generalize eH7 : upd H6 t7 _ = H7
    have s7 : Same H6 H7 := eH7 ▸ same_upd m7
    have h7 : H7 t7 = some _ := eH7 ▸ upd_same
    refine ⟨(by show 2 ≤ sizeLine; decide), fun t8 m8 => ?_⟩
    generalize eH8 : upd H7 t8 _ = H8
    have s8 : Same H7 H8 := eH8 ▸ same_upd m8
    have h8 : H8 t8 = some _ := eH8 ▸ upd_same
    refine ⟨(by show 9 ≤ sizeLine; decide), fun l9 m9 => ?_⟩
    generalize eH9 : upd H8 l9 _ = H9
    have s9 : Same H8 H9 := eH9 ▸ same_upd m9
    have h9 : H9 l9 = some _ := eH9 ▸ upd_same
    refine ⟨_, rfl, (by show 2 ≤ sizeLine; decide), fun l10 m10 => ?_⟩
    generalize eH10 : upd H9 l10 _ = H10
    have s10 : Same H9 H10 := eH10 ▸ same_upd m10
    have h10 : H10 l10 = some _ := eH10 ▸ upd_same
    refine ⟨(by show 2 ≤ sizeLine; decide), fun t11 m11 => ?_⟩
    generalize eH11 : upd H10 t11 _ = H11
    have s11 : Same H10 H11 := eH11 ▸ same_upd m11
    have h11 : H11 t11 = some _ := eH11 ▸ upd_same
    refine ⟨(by show 2 ≤ sizeLine; decide), fun t12 m12 => ?_⟩
    generalize eH12 : upd H11 t12 _ = H12
    have s12 : Same H11 H12 := eH12 ▸ same_upd m12
    have h12 : H12 t12 = some _ := eH12 ▸ upd_same
    refine ⟨(by show 2 ≤ sizeLine; decide), fun t13 m13 => ?_⟩
    generalize eH13 : upd H12 t13 _ = H13
    have s13 : Same H12 H13 := eH13 ▸ same_upd m13
    have h13 : H13 t13 = some _ := eH13 ▸ upd_same
    refine ⟨(by show 3 ≤ sizeLine; decide), fun l14 m14 => ?_⟩
    generalize eH14 : upd H13 l14 _ = H14
    have s14 : Same H13 H14 := eH14 ▸ same_upd m14
    have h14 : H14 l14 = some _ := eH14 ▸ upd_same
    refine ⟨_, _, _, _, rfl, rfl, (by repeat (first | assumption | refine s14 _ _ ?_ | refine s13 _ _ ?_ | refine s12 _ _ ?_ | refine s11 _ _ ?_ | refine s10 _ _ ?_ | refine s9 _ _ ?_ | refine s8 _ _ ?_ | refine s7 _ _ ?_ | refine s6 _ _ ?_ | refine s5 _ _ ?_ | refine s4 _ _ ?_ | refine s3 _ _ ?_ | refine s2 _ _ ?_ | refine s1 _ _ ?_)), (by repeat (first | assumption | refine s14 _ _ ?_ | refine s13 _ _ ?_ | refine s12 _ _ ?_ | refine s11 _ _ ?_ | refine s10 _ _ ?_ | refine s9 _ _ ?_ | refine s8 _ _ ?_ | refine s7 _ _ ?_ | refine s6 _ _ ?_ | refine s5 _ _ ?_ | refine s4 _ _ ?_ | refine s3 _ _ ?_ | refine s2 _ _ ?_ | refine s1 _ _ ?_)), (by show 12 ≤ sizeLine; decide), fun l15 m15 => ?_⟩
    generalize eH15 : upd H14 l15 _ = H15
    have s15 : Same H14 H15 := eH15 ▸ same_upd m15
    have h15 : H15 l15 = some _ := eH15 ▸ upd_same
    have S15 : Same H H15 := s1.trans (s2.trans (s3.trans (s4.trans (s5.trans (s6.trans (s7.trans (s8.trans (s9.trans (s10.trans (s11.trans (s12.trans (s13.trans (s14.trans s15)))))))))))))
    have ne15 : l15 ≠ p := fun e => by
      have : H14 p = some _ := (s1.trans (s2.trans (s3.trans (s4.trans (s5.trans (s6.trans (s7.trans (s8.trans (s9.trans (s10.trans (s11.trans (s12.trans (s13.trans s14))))))))))))) _ _ hp0
      rw [e, this] at m15
      cases m15
    refine ⟨_, rfl, _, rfl, p, l, 12, rfl, by decide, by decide, S0.same S15, fun n H16 hn0 hn1 S16 b16 => ?_⟩
    obtain ⟨v, hv, hat⟩ := atI_ex (xs := ([V.non, V.int 3, V.str "old", V.ref l1, V.ref t3, V.ref t4, V.ref t6, V.ref t7, V.ref t8] ++ [V.ref t11, V.ref t12, V.ref t13] : List V)) hn0 (by show n < 12; exact hn1)
    refine ⟨_, _, n, _, rfl, rfl, SqL.of (b16 _ _ h15 ne15), hat, ?_⟩
    suffices turn : ∃ d, Dp K H15 v d ∧ isTermD d = false ∧ noL d = true by
      obtain ⟨d, h1, h2, h3⟩ := turn
      exact hQ v d H16 S16 ((But.of S15).trans b16) (Dp.but (S0.same S15) b16 h3 h1) h2 h3
    have ha' := Dp.same S15 ha
    have hb' := Dp.same S15 hb
    simp only [List.mem_cons, List.mem_append, List.not_mem_nil, or_false] at hv
    rcases hv with (rfl | rfl | rfl | rfl | rfl | rfl | rfl | rfl | rfl) | rfl | rfl | rfl
    · exact ⟨.none, .non, rfl, rfl⟩
    · exact ⟨.int 3, .int _, rfl, rfl⟩
    · exact ⟨.str "old", .str _, rfl, rfl⟩
    · exact ⟨.list [a, b], .lst (SqL.of (by repeat (first | assumption | refine s15 _ _ ?_ | refine s14 _ _ ?_ | refine s13 _ _ ?_ | refine s12 _ _ ?_ | refine s11 _ _ ?_ | refine s10 _ _ ?_ | refine s9 _ _ ?_ | refine s8 _ _ ?_ | refine s7 _ _ ?_ | refine s6 _ _ ?_ | refine s5 _ _ ?_ | refine s4 _ _ ?_ | refine s3 _ _ ?_ | refine s2 _ _ ?_ | refine s1 _ _ ?_))) (.cons ha' (.cons hb' .nil)), rfl, by unfold noL noLs noLs noLs; rw [na, nb]; rfl⟩
    · exact ⟨.tuple [a, b, .int 1], .tup (SqT.of (by repeat (first | assumption | refine s15 _ _ ?_ | refine s14 _ _ ?_ | refine s13 _ _ ?_ | refine s12 _ _ ?_ | refine s11 _ _ ?_ | refine s10 _ _ ?_ | refine s9 _ _ ?_ | refine s8 _ _ ?_ | refine s7 _ _ ?_ | refine s6 _ _ ?_ | refine s5 _ _ ?_ | refine s4 _ _ ?_ | refine s3 _ _ ?_ | refine s2 _ _ ?_ | refine s1 _ _ ?_))) (.cons ha' (.cons hb' (.cons (.int _) .nil))), by cases a <;> rfl, by show (noL a && (noL b && (noL (.int 1) && noLs []))) = true; rw [na, nb]; rfl⟩
    · exact ⟨.tuple [a], .tup (SqT.of (by repeat (first | assumption | refine s15 _ _ ?_ | refine s14 _ _ ?_ | refine s13 _ _ ?_ | refine s12 _ _ ?_ | refine s11 _ _ ?_ | refine s10 _ _ ?_ | refine s9 _ _ ?_ | refine s8 _ _ ?_ | refine s7 _ _ ?_ | refine s6 _ _ ?_ | refine s5 _ _ ?_ | refine s4 _ _ ?_ | refine s3 _ _ ?_ | refine s2 _ _ ?_ | refine s1 _ _ ?_))) (.cons ha' .nil), by cases a <;> rfl, by show (noL a && noLs []) = true; rw [na]; rfl⟩
    · exact ⟨.tuple [.list [], .int 1], .tup (SqT.of (by repeat (first | assumption | refine s15 _ _ ?_ | refine s14 _ _ ?_ | refine s13 _ _ ?_ | refine s12 _ _ ?_ | refine s11 _ _ ?_ | refine s10 _ _ ?_ | refine s9 _ _ ?_ | refine s8 _ _ ?_ | refine s7 _ _ ?_ | refine s6 _ _ ?_ | refine s5 _ _ ?_ | refine s4 _ _ ?_ | refine s3 _ _ ?_ | refine s2 _ _ ?_ | refine s1 _ _ ?_))) (.cons (.lst (SqL.of (by repeat (first | assumption | refine s15 _ _ ?_ | refine s14 _ _ ?_ | refine s13 _ _ ?_ | refine s12 _ _ ?_ | refine s11 _ _ ?_ | refine s10 _ _ ?_ | refine s9 _ _ ?_ | refine s8 _ _ ?_ | refine s7 _ _ ?_ | refine s6 _ _ ?_ | refine s5 _ _ ?_ | refine s4 _ _ ?_ | refine s3 _ _ ?_ | refine s2 _ _ ?_ | refine s1 _ _ ?_))) .nil) (.cons (.int _) .nil)), rfl, by decide +kernel⟩
    · exact ⟨.tuple [.none], .tup (SqT.of (by repeat (first | assumption | refine s15 _ _ ?_ | refine s14 _ _ ?_ | refine s13 _ _ ?_ | refine s12 _ _ ?_ | refine s11 _ _ ?_ | refine s10 _ _ ?_ | refine s9 _ _ ?_ | refine s8 _ _ ?_ | refine s7 _ _ ?_ | refine s6 _ _ ?_ | refine s5 _ _ ?_ | refine s4 _ _ ?_ | refine s3 _ _ ?_ | refine s2 _ _ ?_ | refine s1 _ _ ?_))) (.cons .non .nil), rfl, rfl⟩
    · exact ⟨.tuple [.str "old", .bool true], .tup (SqT.of (by repeat (first | assumption | refine s15 _ _ ?_ | refine s14 _ _ ?_ | refine s13 _ _ ?_ | refine s12 _ _ ?_ | refine s11 _ _ ?_ | refine s10 _ _ ?_ | refine s9 _ _ ?_ | refine s8 _ _ ?_ | refine s7 _ _ ?_ | refine s6 _ _ ?_ | refine s5 _ _ ?_ | refine s4 _ _ ?_ | refine s3 _ _ ?_ | refine s2 _ _ ?_ | refine s1 _ _ ?_))) (.cons (.str _) (.cons (.bl _) .nil)), by decide +kernel, rfl⟩
    · exact ⟨.tuple [.str "value", .list [.int 1, .int 2]], .tup (SqT.of (by repeat (first | assumption | refine s15 _ _ ?_ | refine s14 _ _ ?_ | refine s13 _ _ ?_ | refine s12 _ _ ?_ | refine s11 _ _ ?_ | refine s10 _ _ ?_ | refine s9 _ _ ?_ | refine s8 _ _ ?_ | refine s7 _ _ ?_ | refine s6 _ _ ?_ | refine s5 _ _ ?_ | refine s4 _ _ ?_ | refine s3 _ _ ?_ | refine s2 _ _ ?_ | refine s1 _ _ ?_))) (.cons (.str _) (.cons (.lst (SqL.of (by repeat (first | assumption | refine s15 _ _ ?_ | refine s14 _ _ ?_ | refine s13 _ _ ?_ | refine s12 _ _ ?_ | refine s11 _ _ ?_ | refine s10 _ _ ?_ | refine s9 _ _ ?_ | refine s8 _ _ ?_ | refine s7 _ _ ?_ | refine s6 _ _ ?_ | refine s5 _ _ ?_ | refine s4 _ _ ?_ | refine s3 _ _ ?_ | refine s2 _ _ ?_ | refine s1 _ _ ?_))) (.cons (.int _) (.cons (.int _) .nil))) .nil)), by decide +kernel, by decide +kernel⟩
    · exact ⟨.tuple [.str "old", .str "1"], .tup (SqT.of (by repeat (first | assumption | refine s15 _ _ ?_ | refine s14 _ _ ?_ | refine s13 _ _ ?_ | refine s12 _ _ ?_ | refine s11 _ _ ?_ | refine s10 _ _ ?_ | refine s9 _ _ ?_ | refine s8 _ _ ?_ | refine s7 _ _ ?_ | refine s6 _ _ ?_ | refine s5 _ _ ?_ | refine s4 _ _ ?_ | refine s3 _ _ ?_ | refine s2 _ _ ?_ | refine s1 _ _ ?_))) (.cons (.str _) (.cons (.str _) .nil)), by decide +kernel, rfl⟩
    · exact ⟨.tuple [.int 1, .str "old"], .tup (SqT.of (by repeat (first | assumption | refine s15 _ _ ?_ | refine s14 _ _ ?_ | refine s13 _ _ ?_ | refine s12 _ _ ?_ | refine s11 _ _ ?_ | refine s10 _ _ ?_ | refine s9 _ _ ?_ | refine s8 _ _ ?_ | refine s7 _ _ ?_ | refine s6 _ _ ?_ | refine s5 _ _ ?_ | refine s4 _ _ ?_ | refine s3 _ _ ?_ | refine s2 _ _ ?_ | refine s1 _ _ ?_))) (.cons (.int _) (.cons (.str _) .nil)), rfl, rfl⟩
/-! _law_side -/
def spSide (K : PySem.W.Frag) : Sp := fun vs H Q _ => ∃ p l, vs = [.ref p] ∧ Src H p l ∧ ∀ o v d H', Src H' p l → But p H H' → H' o = some (.tup [v, .bl (isTermD d)]) → Dp K H' v d → noL d = true → Q (.ref o) H'
theorem d_side (T : Txt K mg) : Dn P w K mg base CX0 3 "_law_side" (spSide K) := by
  obtain ⟨fd, F⟩ := T.f__law_side
  have D__law_draw := d_draw (P := P) (w := w) (base := base) T
  have D__law_term := d_term (P := P) (w := w) (base := base) T
  have D__law_odd := d_odd (P := P) (w := w) (base := base) T
  refine dnN T.g__law_side F (fun _ _ _ _ _ _ us hl => match us, hl with | [_], _ => rfl) sc__law_side (fun vs H Q E h => ?_) (fun cdv A outer s H vs Q E hr h => ?_)
  · obtain ⟨p, l, rfl, _⟩ := h
    rfl
  · obtain ⟨p, l, rfl, S0, hQ⟩ := h
    refine ⟨_, PSs.nox (pss_cons (ps_set (i := 1) sc__law_side.nd rfl (.inl rfl) (cl D__law_term (hr.mono (by decide)) (pa_cons (pv 0) pa_nil)))
      (pss_cons (ps_if (pt_cmpR op_eq (cl D__law_draw (hr.mono (by decide)) (pa_cons (pv 0) (pa_cons pe_int pa_nil))) pe_int (nomark _)) (pss_one (ps_ret (pe_tup (pa_cons (cl D__law_odd (hr.mono (by decide)) (pa_cons (pv 0) (pa_cons (pe_ix ix_tup (pv 1) pe_int (fun _ _ => rfl)) pa_nil))) (pa_cons pe_bl pa_nil))))) pss_nil)
      (pss_one (ps_ret (pv 1))))), ?_⟩
    refine ⟨_, rfl, p, l, rfl, S0, fun o t a b H1 S1 b1 ho hd hn => ?_⟩
    have neo : o ≠ p := fun e => by
      obtain ⟨xs, hx⟩ := Src.lst S1
      rw [e, hx] at ho
      injection ho with ho
      cases ho
    refine ⟨_, rfl, p, l, 6, rfl, by decide, by decide, S1, fun k H2 _ _ S2 b2 => ?_⟩
    have ho2 := b2 _ _ ho neo
    have hd2 := Dp.but S1 b2 hn hd
    refine ⟨rfl, _, rfl, ie (fun ck => ?_) (fun ck => ?_)⟩
    · refine ⟨_, rfl, _, rfl, _, _, 0, _, rfl, rfl, SqT.of ho2, atI_nat (j := 0) rfl, p, l, t, a, b, rfl, S2, hd2, hn, fun v d H3 S3 b3 h3 e3 n3 => ?_⟩
      refine ⟨(by show 2 ≤ sizeLine; decide), fun o2 no2 => ?_⟩
      generalize eH4 : upd H3 o2 _ = H4
      have s4 : Same H3 H4 := eH4 ▸ same_upd no2
      have h4 : H4 o2 = some _ := eH4 ▸ upd_same
      refine hQ o2 v d H4 (S3.same s4) (((b1.trans b2).trans b3).trans (But.of s4)) ?_ (Dp.same s4 h3) n3
      rw [e3]
      exact h4
    · exact ⟨_, rfl, hQ o _ _ H2 S2 (b1.trans b2) ho2 hd2 hn⟩
end
end K03
namespace K03
open PySem PySem.Spec PyProof.Rows L2 He TL EL
section
variable {P : Program} {w : World} {K : PySem.W.Frag} {mg : Str → Option Value} {base : Heap}
theorem sh_zi {z : Str} {i : Int} (h : PyData.canLay0 (.str z) = true) : SeqAt.shaped (.tuple [.str z, .int i]) = true := by
  show (PyData.canLay0 (.str z) && (true && true) && decide (PyData.depth (.tuple [.str z, .int i]) ≤ 64)) = true
  rw [h]
  rfl
theorem sh_val {z : Str} {i j : Int} (h : PyData.canLay0 (.str z) = true) : SeqAt.shaped (.tuple [.str z, .tuple [.int i, .int j]]) = true := by
  show (PyData.canLay0 (.str z) && ((true && (true && true)) && true) && decide (PyData.depth (.tuple [.str z, .tuple [.int i, .int j]]) ≤ 64)) = true
  rw [h]
  rfl
theorem shR : SeqAt.shaped (.list [.str "refused", .bool true]) = true := by decide +kernel
theorem eqR : PyData.eqv (.list [.str "refused", .bool true]) (.list [.str "refused", .bool true]) = true := by
  simp [PyData.eqv, PyData.eqvAll]
theorem eqZ (z : Str) (i : Int) : PyData.eqv (.tuple [.str z, .int i]) (.tuple [.str z, .int i]) = true := by
  simp [PyData.eqv, PyData.eqvAll]
theorem eqV2 (z : Str) (i j : Int) : PyData.eqv (.tuple [.str z, .tuple [.int i, .int j]]) (.tuple [.str z, .tuple [.int i, .int j]]) = true := by
  simp [PyData.eqv, PyData.eqvAll]
theorem cell_int (z : Str) (i : Int) : isCellD (.str z) (.int i) = (inV (.str z) plV && (decide (0 ≤ i) && decide (i ≤ 2))) := by
  show (inV (.str z) plV && termD z (.int i)) = _
  have e : decide (i < 3) = decide (i ≤ 2) := decide_eq_decide.mpr (by omega)
  unfold termD
  cases hz : decide (V.str z = V.str "value") with
  | true =>
    have ez : z = "value" := by
      have := of_decide_eq_true hz
      injection this
    subst ez
    have : inV (.str "value") plV = false := by decide +kernel
    rw [this]
    rfl
  | false =>
    rw [if_neg Bool.false_ne_true]
    show (inV (.str z) plV && (inV (.str z) plV && (decide (0 ≤ i) && decide (i < 3)))) = _
    rw [e]
    cases inV (.str z) plV <;> rfl
theorem cd_odd (n : Int) : cd (2 * n + 1) 2 = 1 := by
  unfold cd
  have h : Nat.gcd (2 * n + 1).natAbs (2 : Int).natAbs = 1 := by
    show Nat.gcd (2 * n + 1).natAbs 2 = 1
    have h2 : (2 * n + 1).natAbs % 2 = 1 := by omega
    rw [Nat.gcd_comm, Nat.gcd_rec, h2]
    rfl
  rw [h]
  rfl
def spCells : Sp := fun vs H Q _ => ∃ p l, vs = [.ref p] ∧ Src H p l ∧ ∀ H', Q (.bl true) H'
theorem d_cells (T : Txt K mg) : Dn P w K mg base CX0 7 "_law_cells_hold" spCells := by
  obtain ⟨fd, F⟩ := T.f__law_cells_hold
  have D__law_draw := d_draw (P := P) (w := w) (base := base) T
  have D__law_made := d_made (P := P) (w := w) (base := base) T
  have D__law_term_of := d_try (P := P) (w := w) (base := base) T
  have D_is_term := d_is_term (P := P) (w := w) (base := base) T
  have D_is_atom := d_is_atom (P := P) (w := w) (base := base) T
  have D_init := d_init (P := P) (w := w) (base := base) T
  have D_cterm := d_cterm (P := P) (w := w) (base := base) T
  have D_of := d_of (P := P) (w := w) (base := base) T
  have hpw : CPow 10 18 := ⟨by decide, by decide, by decide⟩
  refine dnN T.g__law_cells_hold F (fun _ _ _ _ _ _ us hl => match us, hl with | [_], _ => rfl) sc__law_cells_hold (fun vs H Q E h => ?_) (fun cdv A outer s H vs Q E hr h => ?_)
  · obtain ⟨p, l, rfl, _⟩ := h
    rfl
  · obtain ⟨p, l, rfl, S0, hQ⟩ := h
    refine ⟨_, PSs.nox (pss_mid (ps_if (PW.pt (pw_or (pt_cmpR op_isnot_bl (cl D_is_term (hr.mono (by decide)) (pa_cons (pe_makeE T.m_Cell D_init (hr.mono (by decide)) T.g_Cell pxq (pa_cons pe_str (pa_cons pe_int pa_nil))) pa_nil)) pe_bl (nomark _)) (pw_or1 (pt_cmpR op_isnot_bl (cl D_is_atom (hr.mono (by decide)) (pa_cons (pe_makeE T.m_Cell D_init (hr.mono (by decide)) T.g_Cell pxq (pa_cons pe_str (pa_cons pe_int pa_nil))) pa_nil)) pe_bl (nomark _))))) (pss_one (ps_ret pe_bl)) pss_nil)
      (pss_mid (ps_for PassesOwn.never rfl (pi_range1 (by rfl) T.z_range (pa_cons pe_int pa_nil)) (pg_name (i := 1) sc__law_cells_hold.nd rfl (.inl rfl))
      (pss_cons (ps_set (i := 2) sc__law_cells_hold.nd rfl (.inl rfl) (pe_ix ix_list (pe_lst (pa_cons pe_str (pa_cons pe_str (pa_cons pe_str (pa_cons pe_str (pa_cons pe_str pa_nil)))))) (cl D__law_draw (hr.mono (by decide)) (pa_cons (pv 0) (pa_cons pe_int pa_nil))) (fun _ _ => rfl)))
      (pss_cons (ps_set (i := 3) sc__law_cells_hold.nd rfl (.inl rfl) (pe_op op_sub (cl D__law_draw (hr.mono (by decide)) (pa_cons (pv 0) (pa_cons pe_int pa_nil))) pe_int))
      (pss_cons (ps_set (i := 4) sc__law_cells_hold.nd rfl (.inl rfl) (cl D__law_made (hr.mono (by decide)) (pa_cons (pv 2) (pa_cons (pv 3) pa_nil))))
      (pss_cons (ps_if (pt_cmpR op_ne (pe_cmpR op_notN (pv 4) pe_non (nomark _)) (pe_and (pe_cmpR op_in_seq (pv 2) (pe_tup (pa_cons pe_str (pa_cons pe_str (pa_cons pe_str pa_nil)))) (by rfl)) (pe_one (pe_chain op_le op_le pe_int (pv 3) pe_int))) (nomark _)) (pss_one (ps_ret pe_bl)) pss_nil)
      (pss_one (ps_if (pt_cmpR op_notN (pv 4) pe_non (nomark _)) (pss_one (ps_if (PW.pt (pw_or (pt_cmpR op_ne (pe_fld (pv 4) rfl) (pv 2) (nomark _)) (pw_or (pt_cmpR op_ne (pe_fld (pv 4) rfl) (pv 3) (nomark _)) (pw_or (pt_cmpR (op_neD hr.units) (pe_methE0 (pv 4) T.o_Cell.cl T.h_Cell_term D_cterm (hr.mono (by decide)) px0) (pe_tup (pa_cons (pv 2) (pa_cons (pv 3) pa_nil))) (nomark _)) (pw_or1 (pt_cmpR (op_neD hr.units) (pe_smE (pe_glob (v := .ref (ga K "Cell")) (by rfl) T.g_Cell rfl) T.s_Cell_of D_of (hr.mono (by decide)) pxq (pa_cons (pv 4) pa_nil)) (pe_tup (pa_cons (pv 2) (pa_cons (pv 3) pa_nil))) (nomark _))))))) (pss_one (ps_ret pe_bl)) pss_nil)) pss_nil)))))))
      (pss_mid (ps_set (i := 5) sc__law_cells_hold.nd rfl (.inl rfl) (pe_op op_sub (cl D__law_draw (hr.mono (by decide)) (pa_cons (pv 0) (pa_cons (pe_op op_pow pe_int pe_int) pa_nil))) (cl D__law_draw (hr.mono (by decide)) (pa_cons (pv 0) (pa_cons (pe_op op_pow pe_int pe_int) pa_nil)))))
      (pss_mid (ps_if (PW.pt (pw_or (pt_cmpR (op_neD hr.units) (pe_smE (pe_glob (v := .ref (ga K "Cell")) (by rfl) T.g_Cell rfl) T.s_Cell_of D_of (hr.mono (by decide)) pxq (pa_cons (pv 5) pa_nil)) (pe_tup (pa_cons pe_str (pa_cons (pe_tup (pa_cons (pv 5) (pa_cons pe_int pa_nil))) pa_nil))) (nomark _)) (pw_or1 (pt_cmpR (op_neD hr.units) (pe_smE (pe_glob (v := .ref (ga K "Cell")) (by rfl) T.g_Cell rfl) T.s_Cell_of D_of (hr.mono (by decide)) pxq (pa_cons (pe_tup (pa_cons (pe_op op_add (pe_op op_mulW pe_int (pv 5)) pe_int) (pa_cons pe_int pa_nil))) pa_nil)) (pe_tup (pa_cons pe_str (pa_cons (pe_tup (pa_cons (pe_op op_add (pe_op op_mulW pe_int (pv 5)) pe_int) (pa_cons pe_int pa_nil))) pa_nil))) (nomark _))))) (pss_one (ps_ret pe_bl)) pss_nil)
      (pss_mid (ps_for PassesOwn.never rfl (pi_list (pe_lst (pa_cons pe_non (pa_cons pe_bl (pa_cons pe_str (pa_cons (pe_tup (pa_cons pe_str (pa_cons pe_int pa_nil))) (pa_cons (pe_tup (pa_cons pe_int (pa_cons pe_int pa_nil))) (pa_cons (pe_lst (pa_cons pe_int (pa_cons pe_int pa_nil))) (pa_cons (pe_tup (pa_cons (pv 5) (pa_cons pe_int pa_nil))) (pa_cons (pe_tup (pa_cons (pv 5) (pa_cons (pe_un un_neg pe_int) pa_nil))) (pa_cons (pe_tup (pa_cons pe_str (pa_cons (pe_tup (pa_cons pe_int (pa_cons pe_int pa_nil))) pa_nil))) pa_nil))))))))))) (pg_name (i := 6) sc__law_cells_hold.nd rfl (.inl rfl))
      (pss_one (ps_if (pt_cmpR (op_neD hr.units) (cl D__law_term_of (hr.mono (by decide)) (pa_cons (pv 6) pa_nil)) (pe_lst (pa_cons pe_str (pa_cons pe_bl pa_nil))) (nomark _)) (pss_one (ps_ret pe_bl)) pss_nil)))
      (pss_cons (ps_for PassesOwn.never rfl (pi_list (pe_lst (pa_cons (pe_tup (pa_cons pe_non (pa_cons pe_int pa_nil))) (pa_cons (pe_tup (pa_cons pe_int (pa_cons pe_int pa_nil))) (pa_cons (pe_tup (pa_cons pe_str (pa_cons pe_non pa_nil))) (pa_cons (pe_tup (pa_cons pe_str (pa_cons pe_bl pa_nil))) (pa_cons (pe_tup (pa_cons pe_str (pa_cons pe_str pa_nil))) (pa_cons (pe_tup (pa_cons (pe_lst (pa_cons pe_str pa_nil)) (pa_cons pe_int pa_nil))) pa_nil)))))))) (pg_name (i := 6) sc__law_cells_hold.nd rfl (.inl rfl))
      (pss_one (ps_if (pt_cmpR op_notN (cl D__law_made (hr.mono (by decide)) (pa_cons (pe_ix ix_tup (pv 6) pe_int (fun _ _ => rfl)) (pa_cons (pe_ix ix_tup (pv 6) pe_int (fun _ _ => rfl)) pa_nil))) pe_non (nomark _)) (pss_one (ps_ret pe_bl)) pss_nil)))
      (pss_one (ps_ret pe_bl)))))))), ?_⟩
    -- cells as things
    refine ⟨fun σ' H' => σ' = [some (.ref p), none, none, none, none, none, none] ∧ Src H' p l, ?_, ?_⟩
    · refine fun x dx nx ndx hne => ?_
      have s0 : Same H (upd (upd H dx (.own x)) x (.ins (aCell K) dx [])) := (same_upd ndx).trans (same_upd (by rw [upd_ne (Ne.symm hne)]; exact nx))
      refine ⟨x, dx, _, _, .str "old", .int 1, rfl, upd_same, .str _, .int _, fun e => absurd e (by decide +kernel), fun _ H1 b1 h1 => ⟨rfl, ?_⟩⟩
      have s1 : Same H H1 := fun b o ho => b1 b o (s0 b o ho) (ne_of_none ho nx)
      refine ⟨_, .o, rfl, T.o_Cell.th h1, _, _, rfl, rfl, _, rfl, iteF ?_⟩
      refine fun x2 dx2 nx2 ndx2 hne2 => ?_
      have s2 : Same H1 (upd (upd H1 dx2 (.own x2)) x2 (.ins (aCell K) dx2 [])) := (same_upd ndx2).trans (same_upd (by rw [upd_ne (Ne.symm hne2)]; exact nx2))
      refine ⟨x2, dx2, _, _, .str "first", .int 2, rfl, upd_same, .str _, .int _, fun e => absurd e (by decide +kernel), fun _ H2 b2 h2 => ⟨rfl, ?_⟩⟩
      have s3 : Same H1 H2 := fun b o ho => b2 b o (s2 b o ho) (ne_of_none ho nx2)
      refine ⟨_, .o, rfl, T.o_Cell.th h2, _, _, rfl, rfl, _, rfl, iteF ?_⟩
      exact ⟨rfl, S0.same (s1.trans s3)⟩
    rintro σ' H1 ⟨rfl, S1⟩
    -- cells drawn
    refine ⟨fun σ' H' => ∃ v1 v2 v3 v4 : Option V, σ' = [some (.ref p), v1, v2, v3, v4, none, none] ∧ Src H' p l, ?_, ?_⟩
    · refine ⟨3, rfl, by decide, by decide, for_range (n := 3) (fun i σ' H' => ∃ v1 v2 v3 v4 : Option V, σ' = [some (.ref p), v1, v2, v3, v4, none, none] ∧ Src H' p l) ⟨_, _, _, _, rfl, S1⟩ ?_ (fun σ' H' h => h)⟩
      rintro i σ' H2 hi ⟨v1, v2, v3, v4, rfl, S2⟩
      obtain ⟨xs0, hp0⟩ := Src.lst S2
      refine ⟨(by show 5 ≤ sizeLine; decide), fun l0 n0 => ?_⟩
      generalize eH3 : upd H2 l0 _ = H3
      have s3 : Same H2 H3 := eH3 ▸ same_upd n0
      have h3 : H3 l0 = some _ := eH3 ▸ upd_same
      have ne0 : l0 ≠ p := fun e => by rw [e, hp0] at n0; cases n0
      refine ⟨_, rfl, p, l, 5, rfl, by decide, by decide, S2.same s3, fun n H4 hn0 hn1 S4 b4 => ?_⟩
      obtain ⟨v, hv, hat⟩ := atI_ex (xs := [V.str "old", V.str "first", V.str "second", V.str "value", V.str "else"]) hn0 (by show n < 5; exact hn1)
      have hz : ∃ z, v = .str z ∧ PyData.canLay0 (.str z) = true := by
        simp only [List.mem_cons, List.not_mem_nil, or_false] at hv
        rcases hv with rfl | rfl | rfl | rfl | rfl <;> exact ⟨_, rfl, by decide +kernel⟩
      obtain ⟨z, rfl, hlay⟩ := hz
      refine ⟨_, _, n, _, rfl, rfl, SqL.of (b4 _ _ h3 ne0), hat, ?_⟩
      refine ⟨_, rfl, p, l, 6, rfl, by decide, by decide, S4, fun c H5 hc0 hc1 S5 b5 => ?_⟩
      refine ⟨_, _, rfl, rfl, ?_⟩
      refine ⟨_, rfl, _, rfl, _, _, .str z, .int (c - 1), rfl, .str _, .int _, fun hN H6 s6 => ?_, fun hY x dx H6 s6 h6 => ?_⟩
      · -- no cell
        rw [cell_int] at hN
        refine ⟨_, rfl, rfl, _, rfl, (by show 3 ≤ sizeLine; decide), fun t nt => ?_⟩
        generalize eH7 : upd H6 t _ = H7
        have s7 : Same H6 H7 := eH7 ▸ same_upd nt
        have h7 : H7 t = some _ := eH7 ▸ upd_same
        refine ⟨_, _, rfl, .inr (SqT.of h7), rfl, rfl, _, rfl, ?_⟩
        have S7 := (S5.same s6).same s7
        refine ie (fun c1 => ?_) (fun c1 => ?_)
        · have c1' : inV (.str z) plV = true := c1
          rw [c1', Bool.true_and] at hN
          refine ⟨_, rfl, _, _, rfl, rfl, _, rfl, ie (fun c2 => ?_) (fun c2 => ?_)⟩
          · rw [c2, Bool.true_and] at hN
            refine ⟨_, _, rfl, rfl, rfl, _, rfl, if_neg_of (by show (!decide ((V.bl !decide (V.non = V.non)) = V.bl (decide (c - 1 ≤ 2)))) = false; rw [hN]; rfl) ?_⟩
            refine ⟨_, rfl, rfl, _, rfl, iteF ?_⟩
            exact ⟨_, _, _, _, rfl, S7⟩
          · refine ⟨rfl, _, rfl, iteF ?_⟩
            refine ⟨_, rfl, rfl, _, rfl, iteF ?_⟩
            exact ⟨_, _, _, _, rfl, S7⟩
        · refine ⟨rfl, _, rfl, iteF ?_⟩
          refine ⟨_, rfl, rfl, _, rfl, iteF ?_⟩
          exact ⟨_, _, _, _, rfl, S7⟩
      · rw [cell_int] at hY
        obtain ⟨hY1, hY2⟩ := ba hY
        obtain ⟨hY2, hY3⟩ := ba hY2
        refine ⟨_, rfl, rfl, _, rfl, (by show 3 ≤ sizeLine; decide), fun t nt => ?_⟩
        generalize eH7 : upd H6 t _ = H7
        have s7 : Same H6 H7 := eH7 ▸ same_upd nt
        have h7 : H7 t = some _ := eH7 ▸ upd_same
        refine ⟨_, _, rfl, .inr (SqT.of h7), rfl, rfl, _, rfl, if_pos_of hY1 ?_⟩
        refine ⟨_, rfl, _, _, rfl, rfl, _, rfl, if_pos_of hY2 ?_⟩
        refine ⟨_, _, rfl, rfl, rfl, _, rfl, if_neg_of (by show (!decide ((V.bl !decide (V.ref x = V.non)) = V.bl (decide (c - 1 ≤ 2)))) = false; rw [hY3]; rfl) ?_⟩
        refine ⟨_, rfl, rfl, _, rfl, iteT ?_⟩
        have h7' := s7 _ _ h6
        refine ⟨_, rfl, _, _, _, _, _, rfl, h7', T.o_Cell.cl, T.n_Cell_place, cellF_place _ _, _, rfl, rfl, _, rfl, if_neg_of (by rw [decide_eq_true rfl]; rfl) ?_⟩
        refine ⟨_, rfl, _, _, _, _, _, rfl, h7', T.o_Cell.cl, T.n_Cell_at, cellF_at _ _, _, rfl, rfl, _, rfl, if_neg_of (by rw [decide_eq_true rfl]; rfl) ?_⟩
        refine ⟨_, rfl, x, dx, _, rfl, h7', cellF_term _ _, x, dx, _, _, .str z, .int (c - 1), rfl, h7', .str _, .int _, fun o8 H8 s8 h8 => ?_⟩
        refine ⟨_, rfl, _, rfl, (by show 2 ≤ sizeLine; decide), fun t9 nt9 => ?_⟩
        generalize eH9 : upd H8 t9 _ = H9
        have s9 : Same H8 H9 := eH9 ▸ same_upd nt9
        have h9 : H9 t9 = some _ := eH9 ▸ upd_same
        refine ⟨_, _, Dp.same s9 h8, .tup (SqT.of h9) (.cons (.str _) (.cons (.int _) .nil)), sh_zi hlay, sh_zi hlay, _, rfl, if_neg_of (by rw [eqZ]; rfl) ?_⟩
        have h9' := s9 _ _ (s8 _ _ h7')
        refine ⟨rfl, _, rfl, _, rfl, .inl ⟨x, dx, _, _, .str z, .int (c - 1), rfl, h9', .str _, .int _, fun o10 H10 s10 h10 => ?_⟩⟩
        refine ⟨_, rfl, _, rfl, (by show 2 ≤ sizeLine; decide), fun t11 nt11 => ?_⟩
        generalize eH11 : upd H10 t11 _ = H11
        have s11 : Same H10 H11 := eH11 ▸ same_upd nt11
        have h11 : H11 t11 = some _ := eH11 ▸ upd_same
        refine ⟨_, _, Dp.same s11 h10, .tup (SqT.of h11) (.cons (.str _) (.cons (.int _) .nil)), sh_zi hlay, sh_zi hlay, _, rfl, if_neg_of (by rw [eqZ]; rfl) ?_⟩
        exact ⟨_, _, _, _, rfl, (((((S5.same s6).same s7).same s8).same s9).same s10).same s11⟩
    rintro σ' H2 ⟨v1, v2, v3, v4, rfl, S2⟩
    -- the number
    refine ⟨fun σ' H' => ∃ n : Int, n.natAbs < 2 ^ 70 ∧ σ' = [some (.ref p), v1, v2, v3, v4, some (.int n), none] ∧ Src H' p l, ?_, ?_⟩
    · refine ⟨_, rfl, _, _, rfl, rfl, hpw, p, l, _, rfl, (by rw [pow18]; decide), (by rw [pow18]; decide), S2, fun n H3 hn0 hn1 S3 b3 => ?_⟩
      refine ⟨_, rfl, _, _, rfl, rfl, hpw, p, l, _, rfl, (by rw [pow18]; decide), (by rw [pow18]; decide), S3, fun m H4 hm0 hm1 S4 b4 => ?_⟩
      rw [pow18] at hn1 hm1
      refine ⟨_, _, rfl, rfl, n - m, ?_, rfl, S4⟩
      have : (n - m).natAbs < 1000000000000000000 := by omega
      exact Nat.lt_of_lt_of_le this (by decide)
    rintro σ' H3 ⟨n, hnb, rfl, S3⟩
    have hvlay : PyData.canLay0 (.str "value") = true := by decide +kernel
    have hmul : CMulW 2 n := wide_mul (a := 70) (b := 70) (by decide) hnb (by decide) (by decide) (by decide)
    refine ⟨fun σ' H' => σ' = [some (.ref p), v1, v2, v3, v4, some (.int n), none], ?_, ?_⟩
    · refine ⟨rfl, _, rfl, _, rfl, .inr ⟨.int n, .int _, (fun z => by cases z), fun r er o4 H4 s4 h4 => ?_⟩⟩
      have er' : r = .tuple [.str "value", .tuple [.int n, .int 1]] := (Option.some.inj er).symm
      subst er'
      refine ⟨_, rfl, (by show 2 ≤ sizeLine; decide), fun t5 n5 => ?_⟩
      generalize eH5 : upd H4 t5 _ = H5
      have s5 : Same H4 H5 := eH5 ▸ same_upd n5
      have h5 : H5 t5 = some _ := eH5 ▸ upd_same
      refine ⟨(by show 2 ≤ sizeLine; decide), fun t6 n6 => ?_⟩
      generalize eH6 : upd H5 t6 _ = H6
      have s6 : Same H5 H6 := eH6 ▸ same_upd n6
      have h6 : H6 t6 = some _ := eH6 ▸ upd_same
      refine ⟨_, _, Dp.same (s5.trans s6) h4, .tup (SqT.of h6) (.cons (.str _) (.cons (.tup (SqT.of (s6 _ _ h5)) (.cons (.int _) (.cons (.int _) .nil))) .nil)), sh_val hvlay, sh_val hvlay, _, rfl, if_neg_of (by rw [eqV2]; rfl) ?_⟩
      refine ⟨rfl, _, rfl, _, _, rfl, rfl, hmul, _, _, rfl, rfl, (by show 2 ≤ sizeLine; decide), fun t7 n7 => ?_⟩
      generalize eH7 : upd H6 t7 _ = H7
      have s7 : Same H6 H7 := eH7 ▸ same_upd n7
      have h7 : H7 t7 = some _ := eH7 ▸ upd_same
      refine ⟨_, rfl, .inr ⟨.tuple [.int (2 * n + 1), .int 2], .tup (SqT.of h7) (.cons (.int _) (.cons (.int _) .nil)), ?_, ?_⟩⟩
      · intro er
        have : ofD (.tuple [.int (2 * n + 1), .int 2]) = if (!decide ((2 : Int) < 1) && decide (cd (2 * n + 1) 2 = 1)) = true then some (.tuple [.str "value", .tuple [.int (2 * n + 1), .int 2]]) else none := rfl
        rw [this, cd_odd] at er
        cases er
      · intro r er o8 H8 s8 h8
        have : ofD (.tuple [.int (2 * n + 1), .int 2]) = if (!decide ((2 : Int) < 1) && decide (cd (2 * n + 1) 2 = 1)) = true then some (.tuple [.str "value", .tuple [.int (2 * n + 1), .int 2]]) else none := rfl
        rw [this, cd_odd] at er
        have er' : r = .tuple [.str "value", .tuple [.int (2 * n + 1), .int 2]] := (Option.some.inj er).symm
        subst er'
        refine ⟨_, rfl, _, _, rfl, rfl, hmul, _, _, rfl, rfl, (by show 2 ≤ sizeLine; decide), fun t9 n9 => ?_⟩
        generalize eH9 : upd H8 t9 _ = H9
        have s9 : Same H8 H9 := eH9 ▸ same_upd n9
        have h9 : H9 t9 = some _ := eH9 ▸ upd_same
        refine ⟨(by show 2 ≤ sizeLine; decide), fun t10 n10 => ?_⟩
        generalize eH10 : upd H9 t10 _ = H10
        have s10 : Same H9 H10 := eH10 ▸ same_upd n10
        have h10 : H10 t10 = some _ := eH10 ▸ upd_same
        refine ⟨_, _, Dp.same (s9.trans s10) h8, .tup (SqT.of h10) (.cons (.str _) (.cons (.tup (SqT.of (s10 _ _ h9)) (.cons (.int _) (.cons (.int _) .nil))) .nil)), sh_val hvlay, sh_val hvlay, _, rfl, if_neg_of (by rw [eqV2]; rfl) ?_⟩
        rfl
    rintro σ' H4 rfl
    -- refused things
    refine ⟨fun σ' H' => ∃ v6 : Option V, σ' = [some (.ref p), v1, v2, v3, v4, some (.int n), v6], ?_, ?_⟩
    · refine ⟨(by show 2 ≤ sizeLine; decide), fun t1 n1 => ?_⟩
      generalize eH5 : upd H4 t1 _ = H5
      have s5 : Same H4 H5 := eH5 ▸ same_upd n1
      have h5 : H5 t1 = some _ := eH5 ▸ upd_same
      refine ⟨(by show 2 ≤ sizeLine; decide), fun t2 n2 => ?_⟩
      generalize eH6 : upd H5 t2 _ = H6
      have s6 : Same H5 H6 := eH6 ▸ same_upd n2
      have h6 : H6 t2 = some _ := eH6 ▸ upd_same
      refine ⟨(by show 2 ≤ sizeLine; decide), fun l3 n3 => ?_⟩
      generalize eH7 : upd H6 l3 _ = H7
      have s7 : Same H6 H7 := eH7 ▸ same_upd n3
      have h7 : H7 l3 = some _ := eH7 ▸ upd_same
      refine ⟨_, rfl, (by show 2 ≤ sizeLine; decide), fun t4 n4 => ?_⟩
      generalize eH8 : upd H7 t4 _ = H8
      have s8 : Same H7 H8 := eH8 ▸ same_upd n4
      have h8 : H8 t4 = some _ := eH8 ▸ upd_same
      refine ⟨_, rfl, _, rfl, (by show 2 ≤ sizeLine; decide), fun t5 n5 => ?_⟩
      generalize eH9 : upd H8 t5 _ = H9
      have s9 : Same H8 H9 := eH9 ▸ same_upd n5
      have h9 : H9 t5 = some _ := eH9 ▸ upd_same
      refine ⟨(by show 2 ≤ sizeLine; decide), fun t6 n6 => ?_⟩
      generalize eH10 : upd H9 t6 _ = H10
      have s10 : Same H9 H10 := eH10 ▸ same_upd n6
      have h10 : H10 t6 = some _ := eH10 ▸ upd_same
      refine ⟨(by show 2 ≤ sizeLine; decide), fun t7 n7 => ?_⟩
      generalize eH11 : upd H10 t7 _ = H11
      have s11 : Same H10 H11 := eH11 ▸ same_upd n7
      have h11 : H11 t7 = some _ := eH11 ▸ upd_same
      refine ⟨(by show 9 ≤ sizeLine; decide), fun l8 n8 => ?_⟩
      generalize eH12 : upd H11 l8 _ = H12
      have s12 : Same H11 H12 := eH12 ▸ same_upd n8
      have h12 : H12 l8 = some _ := eH12 ▸ upd_same
      refine ⟨l8, rfl, ⟨_, SqL.of h12⟩, for_list (K := K) (a := l8) (xs := [.non, .bl true, .str "old", .ref t1, .ref t2, .ref l3, .ref t4, .ref t5, .ref t7]) (fun i σ' H' => (∃ v6 : Option V, σ' = [some (.ref p), v1, v2, v3, v4, some (.int n), v6]) ∧ Same H12 H')
        ⟨⟨none, rfl⟩, .refl _⟩ (fun i σ' H' _ ⟨_, s⟩ => s.seq (SqL.of h12)) ?_ (fun σ' H' ⟨h, _⟩ => h)⟩
      rintro i y σ' H' hi ⟨⟨v6, rfl⟩, s⟩
      suffices turn : ∃ d, Dp K H' y d ∧ ofD d = none by
        obtain ⟨d, hd, hv⟩ := turn
        refine ⟨_, rfl, _, d, rfl, hd, hv, fun o H13 s13 h13 => ?_⟩
        refine ⟨(by show 2 ≤ sizeLine; decide), fun o14 n14 => ?_⟩
        generalize eH14 : upd H13 o14 _ = H14
        have s14 : Same H13 H14 := eH14 ▸ same_upd n14
        have h14 : H14 o14 = some _ := eH14 ▸ upd_same
        refine ⟨_, _, Dp.same s14 h13, .lst (SqL.of h14) (.cons (.str _) (.cons (.bl _) .nil)), shR, shR, _, rfl, if_neg_of (by rw [eqR]; rfl) ?_⟩
        exact ⟨⟨_, rfl⟩, s.trans (s13.trans s14)⟩
      match i, hi with
      | 0, hi =>
        obtain rfl := (Option.some.inj hi).symm
        exact ⟨.none, .non, rfl⟩
      | 1, hi =>
        obtain rfl := (Option.some.inj hi).symm
        exact ⟨.bool true, .bl _, rfl⟩
      | 2, hi =>
        obtain rfl := (Option.some.inj hi).symm
        exact ⟨.str "old", .str _, rfl⟩
      | 3, hi =>
        obtain rfl := (Option.some.inj hi).symm
        exact ⟨.tuple [.str "old", .int 1], .tup (SqT.of (by repeat (first | assumption | refine s _ _ ?_ | refine s12 _ _ ?_ | refine s11 _ _ ?_ | refine s10 _ _ ?_ | refine s9 _ _ ?_ | refine s8 _ _ ?_ | refine s7 _ _ ?_ | refine s6 _ _ ?_ | refine s5 _ _ ?_))) (.cons (.str _) (.cons (.int _) .nil)), rfl⟩
      | 4, hi =>
        obtain rfl := (Option.some.inj hi).symm
        exact ⟨.tuple [.int 2, .int 4], .tup (SqT.of (by repeat (first | assumption | refine s _ _ ?_ | refine s12 _ _ ?_ | refine s11 _ _ ?_ | refine s10 _ _ ?_ | refine s9 _ _ ?_ | refine s8 _ _ ?_ | refine s7 _ _ ?_ | refine s6 _ _ ?_ | refine s5 _ _ ?_))) (.cons (.int _) (.cons (.int _) .nil)), rfl⟩
      | 5, hi =>
        obtain rfl := (Option.some.inj hi).symm
        exact ⟨.list [.int 1, .int 2], .lst (SqL.of (by repeat (first | assumption | refine s _ _ ?_ | refine s12 _ _ ?_ | refine s11 _ _ ?_ | refine s10 _ _ ?_ | refine s9 _ _ ?_ | refine s8 _ _ ?_ | refine s7 _ _ ?_ | refine s6 _ _ ?_ | refine s5 _ _ ?_))) (.cons (.int _) (.cons (.int _) .nil)), rfl⟩
      | 6, hi =>
        obtain rfl := (Option.some.inj hi).symm
        exact ⟨.tuple [.int n, .int 0], .tup (SqT.of (by repeat (first | assumption | refine s _ _ ?_ | refine s12 _ _ ?_ | refine s11 _ _ ?_ | refine s10 _ _ ?_ | refine s9 _ _ ?_ | refine s8 _ _ ?_ | refine s7 _ _ ?_ | refine s6 _ _ ?_ | refine s5 _ _ ?_))) (.cons (.int _) (.cons (.int _) .nil)), rfl⟩
      | 7, hi =>
        obtain rfl := (Option.some.inj hi).symm
        exact ⟨.tuple [.int n, .int (-1)], .tup (SqT.of (by repeat (first | assumption | refine s _ _ ?_ | refine s12 _ _ ?_ | refine s11 _ _ ?_ | refine s10 _ _ ?_ | refine s9 _ _ ?_ | refine s8 _ _ ?_ | refine s7 _ _ ?_ | refine s6 _ _ ?_ | refine s5 _ _ ?_))) (.cons (.int _) (.cons (.int _) .nil)), rfl⟩
      | 8, hi =>
        obtain rfl := (Option.some.inj hi).symm
        exact ⟨.tuple [.str "value", .tuple [.int 1, .int 2]], .tup (SqT.of (by repeat (first | assumption | refine s _ _ ?_ | refine s12 _ _ ?_ | refine s11 _ _ ?_ | refine s10 _ _ ?_ | refine s9 _ _ ?_ | refine s8 _ _ ?_ | refine s7 _ _ ?_ | refine s6 _ _ ?_ | refine s5 _ _ ?_))) (.cons (.str _) (.cons (.tup (SqT.of (by repeat (first | assumption | refine s _ _ ?_ | refine s12 _ _ ?_ | refine s11 _ _ ?_ | refine s10 _ _ ?_ | refine s9 _ _ ?_ | refine s8 _ _ ?_ | refine s7 _ _ ?_ | refine s6 _ _ ?_ | refine s5 _ _ ?_))) (.cons (.int _) (.cons (.int _) .nil))) .nil)), rfl⟩
      | n + 9, hi => cases hi
    rintro σ' H5 ⟨v6, rfl⟩
    refine ⟨(by show 2 ≤ sizeLine; decide), fun t1 n1 => ?_⟩
    generalize eH6 : upd H5 t1 _ = H6
    have s6 : Same H5 H6 := eH6 ▸ same_upd n1
    have h6 : H6 t1 = some _ := eH6 ▸ upd_same
    refine ⟨(by show 2 ≤ sizeLine; decide), fun t2 n2 => ?_⟩
    generalize eH7 : upd H6 t2 _ = H7
    have s7 : Same H6 H7 := eH7 ▸ same_upd n2
    have h7 : H7 t2 = some _ := eH7 ▸ upd_same
    refine ⟨(by show 2 ≤ sizeLine; decide), fun t3 n3 => ?_⟩
    generalize eH8 : upd H7 t3 _ = H8
    have s8 : Same H7 H8 := eH8 ▸ same_upd n3
    have h8 : H8 t3 = some _ := eH8 ▸ upd_same
    refine ⟨(by show 2 ≤ sizeLine; decide), fun t4 n4 => ?_⟩
    generalize eH9 : upd H8 t4 _ = H9
    have s9 : Same H8 H9 := eH9 ▸ same_upd n4
    have h9 : H9 t4 = some _ := eH9 ▸ upd_same
    refine ⟨(by show 2 ≤ sizeLine; decide), fun t5 n5 => ?_⟩
    generalize eH10 : upd H9 t5 _ = H10
    have s10 : Same H9 H10 := eH10 ▸ same_upd n5
    have h10 : H10 t5 = some _ := eH10 ▸ upd_same
    refine ⟨(by show 1 ≤ sizeLine; decide), fun l6 n6 => ?_⟩
    generalize eH11 : upd H10 l6 _ = H11
    have s11 : Same H10 H11 := eH11 ▸ same_upd n6
    have h11 : H11 l6 = some _ := eH11 ▸ upd_same
    refine ⟨(by show 2 ≤ sizeLine; decide), fun t7 n7 => ?_⟩
    generalize eH12 : upd H11 t7 _ = H12
    have s12 : Same H11 H12 := eH12 ▸ same_upd n7
    have h12 : H12 t7 = some _ := eH12 ▸ upd_same
    refine ⟨(by show 6 ≤ sizeLine; decide), fun l8 n8 => ?_⟩
    generalize eH13 : upd H12 l8 _ = H13
    have s13 : Same H12 H13 := eH13 ▸ same_upd n8
    have h13 : H13 l8 = some _ := eH13 ▸ upd_same
    refine ⟨l8, rfl, ⟨_, SqL.of h13⟩, for_list (K := K) (a := l8) (xs := [.ref t1, .ref t2, .ref t3, .ref t4, .ref t5, .ref t7]) (fun i σ' H' => (∃ v6 : Option V, σ' = [some (.ref p), v1, v2, v3, v4, some (.int n), v6]) ∧ Same H13 H')
      ⟨⟨_, rfl⟩, .refl _⟩ (fun i σ' H' _ ⟨_, s⟩ => s.seq (SqL.of h13)) ?_ (fun σ' H' _ => hQ _)⟩
    rintro i y σ' H' hi ⟨⟨v6', rfl⟩, s⟩
    suffices turn : ∃ t va vb d1 d2, y = .ref t ∧ SqT K H' t [va, vb] ∧ Dp K H' va d1 ∧ Dp K H' vb d2 ∧ isCellD d1 d2 = false by
      obtain ⟨t, va, vb, d1, d2, rfl, hS, ha, hb, hv⟩ := turn
      refine ⟨_, rfl, _, _, 0, va, rfl, rfl, hS, atI_nat (j := 0) rfl, _, rfl, _, _, 1, vb, rfl, rfl, hS, atI_nat (j := 1) rfl, va, vb, d1, d2, rfl, ha, hb, fun _ H14 s14 => ?_, fun e => by rw [hv] at e; cases e⟩
      refine ⟨rfl, _, rfl, iteF ?_⟩
      exact ⟨⟨_, rfl⟩, s.trans s14⟩
    match i, hi with
    | 0, hi =>
      obtain rfl := (Option.some.inj hi).symm
      exact ⟨t1, _, _, .none, .int 1, rfl, SqT.of (by repeat (first | assumption | refine s _ _ ?_ | refine s13 _ _ ?_ | refine s12 _ _ ?_ | refine s11 _ _ ?_ | refine s10 _ _ ?_ | refine s9 _ _ ?_ | refine s8 _ _ ?_ | refine s7 _ _ ?_ | refine s6 _ _ ?_)), .non, .int _, rfl⟩
    | 1, hi =>
      obtain rfl := (Option.some.inj hi).symm
      exact ⟨t2, _, _, .int 3, .int 1, rfl, SqT.of (by repeat (first | assumption | refine s _ _ ?_ | refine s13 _ _ ?_ | refine s12 _ _ ?_ | refine s11 _ _ ?_ | refine s10 _ _ ?_ | refine s9 _ _ ?_ | refine s8 _ _ ?_ | refine s7 _ _ ?_ | refine s6 _ _ ?_)), .int _, .int _, rfl⟩
    | 2, hi =>
      obtain rfl := (Option.some.inj hi).symm
      exact ⟨t3, _, _, .str "old", .none, rfl, SqT.of (by repeat (first | assumption | refine s _ _ ?_ | refine s13 _ _ ?_ | refine s12 _ _ ?_ | refine s11 _ _ ?_ | refine s10 _ _ ?_ | refine s9 _ _ ?_ | refine s8 _ _ ?_ | refine s7 _ _ ?_ | refine s6 _ _ ?_)), .str _, .non, by decide +kernel⟩
    | 3, hi =>
      obtain rfl := (Option.some.inj hi).symm
      exact ⟨t4, _, _, .str "old", .bool true, rfl, SqT.of (by repeat (first | assumption | refine s _ _ ?_ | refine s13 _ _ ?_ | refine s12 _ _ ?_ | refine s11 _ _ ?_ | refine s10 _ _ ?_ | refine s9 _ _ ?_ | refine s8 _ _ ?_ | refine s7 _ _ ?_ | refine s6 _ _ ?_)), .str _, .bl _, by decide +kernel⟩
    | 4, hi =>
      obtain rfl := (Option.some.inj hi).symm
      exact ⟨t5, _, _, .str "old", .str "1", rfl, SqT.of (by repeat (first | assumption | refine s _ _ ?_ | refine s13 _ _ ?_ | refine s12 _ _ ?_ | refine s11 _ _ ?_ | refine s10 _ _ ?_ | refine s9 _ _ ?_ | refine s8 _ _ ?_ | refine s7 _ _ ?_ | refine s6 _ _ ?_)), .str _, .str _, by decide +kernel⟩
    | 5, hi =>
      obtain rfl := (Option.some.inj hi).symm
      exact ⟨t7, _, _, .list [.str "old"], .int 1, rfl, SqT.of (by repeat (first | assumption | refine s _ _ ?_ | refine s13 _ _ ?_ | refine s12 _ _ ?_ | refine s11 _ _ ?_ | refine s10 _ _ ?_ | refine s9 _ _ ?_ | refine s8 _ _ ?_ | refine s7 _ _ ?_ | refine s6 _ _ ?_)), .lst (SqL.of (by repeat (first | assumption | refine s _ _ ?_ | refine s13 _ _ ?_ | refine s12 _ _ ?_ | refine s11 _ _ ?_ | refine s10 _ _ ?_ | refine s9 _ _ ?_ | refine s8 _ _ ?_ | refine s7 _ _ ?_ | refine s6 _ _ ?_))) (.cons (.str _) .nil), .int _, rfl⟩
    | n + 6, hi => cases hi
end
end K03
namespace K03
open PySem PySem.Spec PyProof.Rows L2 He TL EL
section
variable {P : Program} {w : World} {K : PySem.W.Frag} {mg : Str → Option Value} {base : Heap}
theorem at3 (d1 d2 : PyData) (z : Str) : isAtomD (.tuple [d1, .str z, d2]) = false := by
  cases d1 <;> first | rfl | (show (inV _ sgV && (false && _)) = false; simp)
def spLaw (K : PySem.W.Frag) : Sp := fun vs H Q _ => ∃ (a : Addr) (ns : List Int), vs = [.ref a] ∧ SqL K H a (ns.map V.int) ∧ ns.length ≤ 63 ∧ ∀ H', Q (.bl true) H'
theorem ok_law {fd : FuncData} (T : Txt K mg) (F : FunD K "law" "law" (defArgs s_law) (defBody s_law) (defScope s_law) ([] : List V) [] (ga K "law") fd) : FnOk P w K mg base CX0 8 (ga K "law") fd ["_law_script"] (spLaw K) := by
  have D__law_begin := d_begin (P := P) (w := w) (base := base) T
  have D__law_draw := d_draw (P := P) (w := w) (base := base) T
  have D__law_side := d_side (P := P) (w := w) (base := base) T
  have D__law_is := d_is (P := P) (w := w) (base := base) T
  have D_is_term := d_is_term (P := P) (w := w) (base := base) T
  have D_is_atom := d_is_atom (P := P) (w := w) (base := base) T
  have D__law_cells_hold := d_cells (P := P) (w := w) (base := base) T
  refine F.ok sc_law (fun vs H Q E h => ?_) (fun cdv A outer s H vs Q E hr h => ?_)
  · obtain ⟨a, ns, rfl, _⟩ := h
    rfl
  · obtain ⟨a, ns, rfl, hS, _, q⟩ := h
    refine ⟨_, PSs.nox (pss_cons (ps_set (i := 1) sc_law.nd rfl (.inl rfl) (cl D__law_begin (hr.mono (by decide)) (pa_cons (pv 0) pa_nil)))
      (pss_mid (ps_for PassesOwn.never rfl (pi_range1 (by rfl) T.z_range (pa_cons pe_int pa_nil)) (pg_name (i := 2) sc_law.nd rfl (.inl rfl))
      (pss_cons (ps_set (i := 3) sc_law.nd rfl (.inl rfl) (cl D__law_side (hr.mono (by decide)) (pa_cons (pv 1) pa_nil)))
      (pss_cons (ps_set (i := 4) sc_law.nd rfl (.inl rfl) (cl D__law_side (hr.mono (by decide)) (pa_cons (pv 1) pa_nil)))
      (pss_cons (ps_if (PW.pt (pw_or (pt_not (pt_val (cl D__law_is (hr.mono (by decide)) (pa_cons (cl D_is_term (hr.mono (by decide)) (pa_cons (pe_ix ix_tup (pv 3) pe_int (fun _ _ => rfl)) pa_nil)) (pa_cons (pe_ix ix_tup (pv 3) pe_int (fun _ _ => rfl)) pa_nil))))) (pw_or1 (pt_not (pt_val (cl D__law_is (hr.mono (by decide)) (pa_cons (cl D_is_term (hr.mono (by decide)) (pa_cons (pe_ix ix_tup (pv 4) pe_int (fun _ _ => rfl)) pa_nil)) (pa_cons (pe_ix ix_tup (pv 4) pe_int (fun _ _ => rfl)) pa_nil)))))))) (pss_one (ps_ret pe_bl)) pss_nil)
      (pss_cons (ps_set (i := 5) sc_law.nd rfl (.inl rfl) (pe_ix ix_list (pe_lst (pa_cons pe_str (pa_cons pe_str (pa_cons pe_str (pa_cons pe_str (pa_cons pe_str (pa_cons pe_str (pa_cons pe_str (pa_cons pe_str (pa_cons pe_str (pa_cons pe_str pa_nil))))))))))) (cl D__law_draw (hr.mono (by decide)) (pa_cons (pv 1) (pa_cons pe_int pa_nil))) (fun _ _ => rfl)))
      (pss_mid (ps_set (i := 6) sc_law.nd rfl (.inl rfl) (pe_and (pe_cmpR op_in_seq (pv 5) (pe_tup (pa_cons pe_str (pa_cons pe_str (pa_cons pe_str (pa_cons pe_str pa_nil))))) (by rfl)) (pe_and (pe_ix ix_tup (pv 3) pe_int (fun _ _ => rfl)) (pe_one (pe_ix ix_tup (pv 4) pe_int (fun _ _ => rfl))))))
      (pss_cons (ps_if (pt_not (pt_val (cl D__law_is (hr.mono (by decide)) (pa_cons (cl D_is_atom (hr.mono (by decide)) (pa_cons (pe_tup (pa_cons (pv 5) (pa_cons (pe_ix ix_tup (pv 3) pe_int (fun _ _ => rfl)) (pa_cons (pe_ix ix_tup (pv 4) pe_int (fun _ _ => rfl)) pa_nil)))) pa_nil)) (pa_cons (pv 6) pa_nil))))) (pss_one (ps_ret pe_bl)) pss_nil)
      (pss_cons (ps_if (PW.pt (pw_or (pt_cmpR op_isnot_bl (cl D_is_atom (hr.mono (by decide)) (pa_cons (pe_lst (pa_cons (pv 5) (pa_cons (pe_ix ix_tup (pv 3) pe_int (fun _ _ => rfl)) (pa_cons (pe_ix ix_tup (pv 4) pe_int (fun _ _ => rfl)) pa_nil)))) pa_nil)) pe_bl (nomark _)) (pw_or1 (pt_cmpR op_isnot_bl (cl D_is_atom (hr.mono (by decide)) (pa_cons (pe_tup (pa_cons (pv 5) (pa_cons (pe_ix ix_tup (pv 3) pe_int (fun _ _ => rfl)) pa_nil))) pa_nil)) pe_bl (nomark _))))) (pss_one (ps_ret pe_bl)) pss_nil)
      (pss_one (ps_if (PW.pt (pw_or (pt_cmpR op_isnot_bl (cl D_is_atom (hr.mono (by decide)) (pa_cons (pe_tup (pa_cons (pe_ix ix_tup (pv 3) pe_int (fun _ _ => rfl)) (pa_cons (pv 5) (pa_cons (pe_ix ix_tup (pv 4) pe_int (fun _ _ => rfl)) pa_nil)))) pa_nil)) pe_bl (nomark _)) (pw_or1 (pt_cmpR op_isnot_bl (cl D_is_atom (hr.mono (by decide)) (pa_cons (pe_tup (pa_cons (pv 5) (pa_cons (pe_ix ix_tup (pv 3) pe_int (fun _ _ => rfl)) (pa_cons (pe_ix ix_tup (pv 4) pe_int (fun _ _ => rfl)) (pa_cons pe_int pa_nil))))) pa_nil)) pe_bl (nomark _))))) (pss_one (ps_ret pe_bl)) pss_nil))))))))))
      (pss_mid (ps_for PassesOwn.never rfl (pi_list (pe_lst (pa_cons pe_non (pa_cons pe_int (pa_cons pe_str (pa_cons (pe_tup pa_nil) (pa_cons (pe_tup (pa_cons pe_str pa_nil)) (pa_cons (pe_tup (pa_cons pe_int (pa_cons pe_int (pa_cons pe_int pa_nil)))) pa_nil)))))))) (pg_name (i := 7) sc_law.nd rfl (.inl rfl))
      (pss_one (ps_if (pt_cmpR op_isnot_bl (cl D_is_atom (hr.mono (by decide)) (pa_cons (pv 7) pa_nil)) pe_bl (nomark _)) (pss_one (ps_ret pe_bl)) pss_nil)))
      (pss_one (ps_ret (cl D__law_cells_hold (hr.mono (by decide)) (pa_cons (pv 1) pa_nil))))))), ?_⟩
    refine ⟨_, rfl, a, ns, rfl, hS, fun p l H1 np nl s1 S1 => ?_⟩
    refine ⟨fun σ' H' => ∃ v2 v3 v4 v5 v6 : Option V, σ' = [some (.ref a), some (.ref p), v2, v3, v4, v5, v6, none] ∧ Src H' p l, ?_, ?_⟩
    · refine ⟨8, rfl, by decide, by decide, for_range (n := 8) (fun i σ' H' => ∃ v2 v3 v4 v5 v6 : Option V, σ' = [some (.ref a), some (.ref p), v2, v3, v4, v5, v6, none] ∧ Src H' p l) ⟨_, _, _, _, _, rfl, S1⟩ ?_ (fun σ' H' h => h)⟩
      rintro i σ' H2 hi ⟨v2, v3, v4, v5, v6, rfl, S2⟩
      refine ⟨_, rfl, p, l, rfl, S2, fun o1 w1 d1 H3 S3 b3 ho1 hd1 hn1 => ?_⟩
      have nep : ∀ {H' : Hp} {o : Addr} {xs : List V}, Src H' p l → H' o = some (.tup xs) → o ≠ p := fun S h e => by
        obtain ⟨ys, hy⟩ := Src.lst S
        rw [e, hy] at h
        injection h with h
        cases h
      refine ⟨_, rfl, p, l, rfl, S3, fun o2 w2 d2 H4 S4 b4 ho2 hd2 hn2 => ?_⟩
      have ho1 := b4 _ _ ho1 (nep S3 ho1)
      have hd1 := Dp.but S3 b4 hn1 hd1
      refine ⟨_, rfl, _, _, 0, w1, rfl, rfl, SqT.of ho1, atI_nat (j := 0) rfl, w1, .d d1, rfl, hd1, _, rfl, _, _, 1, _, rfl, rfl, SqT.of ho1, atI_nat (j := 1) rfl, _, _, rfl, _, rfl, if_neg_of (by show (!decide (V.bl (isTermD d1) = V.bl (isTermD d1))) = false; rw [decide_eq_true rfl]; rfl) ?_⟩
      refine ⟨_, rfl, _, _, 0, w2, rfl, rfl, SqT.of ho2, atI_nat (j := 0) rfl, w2, .d d2, rfl, hd2, _, rfl, _, _, 1, _, rfl, rfl, SqT.of ho2, atI_nat (j := 1) rfl, _, _, rfl, _, rfl, if_neg_of (by show (!decide (V.bl (isTermD d2) = V.bl (isTermD d2))) = false; rw [decide_eq_true rfl]; rfl) ?_⟩
      -- the sign
      obtain ⟨xs0, hp0⟩ := Src.lst S4
      refine ⟨(by show 10 ≤ sizeLine; decide), fun l0 n0 => ?_⟩
      generalize eH5 : upd H4 l0 _ = H5
      have s5 : Same H4 H5 := eH5 ▸ same_upd n0
      have h5 : H5 l0 = some _ := eH5 ▸ upd_same
      have ne0 : l0 ≠ p := fun e => by rw [e, hp0] at n0; cases n0
      refine ⟨_, rfl, p, l, 10, rfl, by decide, by decide, S4.same s5, fun n H6 hn0 hn1' S6 b6 => ?_⟩
      obtain ⟨v, hv, hat⟩ := atI_ex (xs := [V.str "<", V.str "<=", V.str "=", V.str "!=", V.str "==", V.str ">", V.str ">=", V.str "", V.str " <", V.str "lt"]) hn0 (by show n < 10; exact hn1')
      have hz : ∃ z, v = .str z := by
        simp only [List.mem_cons, List.not_mem_nil, or_false] at hv
        rcases hv with rfl | rfl | rfl | rfl | rfl | rfl | rfl | rfl | rfl | rfl <;> exact ⟨_, rfl⟩
      obtain ⟨z, rfl⟩ := hz
      refine ⟨_, _, n, _, rfl, rfl, SqL.of (b6 _ _ h5 ne0), hat, ?_⟩
      have bb : But p H4 H6 := (But.of s5).trans b6
      have ho1 := bb _ _ ho1 (nep S4 ho1)
      have ho2 := bb _ _ ho2 (nep S4 ho2)
      have hd1 := Dp.but S4 bb hn1 hd1
      have hd2 := Dp.but S4 bb hn2 hd2
      -- due
      refine ⟨fun σ' H' => σ' = [some (.ref a), some (.ref p), some (.int (0 + (i : Int))), some (.ref o1), some (.ref o2), some (.str z), some (.bl (isAtomD (.tuple [.str z, d1, d2]))), none] ∧ Same H6 H', ?_, ?_⟩
      · have et : isAtomD (.tuple [.str z, d1, d2]) = (inV (.str z) sgV && (isTermD d1 && isTermD d2)) := rfl
        refine ⟨_, rfl, (by show 4 ≤ sizeLine; decide), fun t nt => ?_⟩
        generalize eH7 : upd H6 t _ = H7
        have s7 : Same H6 H7 := eH7 ▸ same_upd nt
        have h7 : H7 t = some _ := eH7 ▸ upd_same
        rw [et]
        refine ⟨_, _, rfl, .inr (SqT.of h7), rfl, rfl, _, rfl, ie (fun c1 => ?_) (fun c1 => ?_)⟩
        · have c1' : inV (.str z) sgV = true := c1
          rw [c1', Bool.true_and]
          refine ⟨_, rfl, _, _, 1, _, rfl, rfl, SqT.of (s7 _ _ ho1), atI_nat (j := 1) rfl, _, rfl, ie (fun c2 => ?_) (fun c2 => ?_)⟩
          · rw [c2, Bool.true_and]
            exact ⟨_, rfl, _, _, 1, _, rfl, rfl, SqT.of (s7 _ _ ho2), atI_nat (j := 1) rfl, rfl, s7⟩
          · rw [c2, Bool.false_and]
            exact ⟨rfl, s7⟩
        · have c1' : inV (.str z) sgV = false := c1
          rw [c1', Bool.false_and]
          exact ⟨rfl, s7⟩
      · rintro σ' H7 ⟨rfl, s7⟩
        have ho1 := s7 _ _ ho1
        have ho2 := s7 _ _ ho2
        have hd1 := Dp.same s7 hd1
        have hd2 := Dp.same s7 hd2
        have S7 := S6.same s7
        refine ⟨_, rfl, _, rfl, _, _, 0, w1, rfl, rfl, SqT.of ho1, atI_nat (j := 0) rfl, _, rfl, _, _, 0, w2, rfl, rfl, SqT.of ho2, atI_nat (j := 0) rfl, (by show 3 ≤ sizeLine; decide), fun t8 n8 => ?_⟩
        generalize eH8 : upd H7 t8 _ = H8
        have s8 : Same H7 H8 := eH8 ▸ same_upd n8
        have h8 : H8 t8 = some _ := eH8 ▸ upd_same
        refine ⟨_, .d (.tuple [.str z, d1, d2]), rfl, .tup (SqT.of h8) (.cons (.str _) (.cons (Dp.same s8 hd1) (.cons (Dp.same s8 hd2) .nil))), _, rfl, _, _, rfl, _, rfl, if_neg_of (by show (!decide (V.bl (isAtomD (.tuple [.str z, d1, d2])) = V.bl (isAtomD (.tuple [.str z, d1, d2])))) = false; rw [decide_eq_true rfl]; rfl) ?_⟩
        have ho1 := s8 _ _ ho1
        have ho2 := s8 _ _ ho2
        have hd1 := Dp.same s8 hd1
        have hd2 := Dp.same s8 hd2
        -- a list, a pair
        refine ⟨_, rfl, _, rfl, _, _, 0, w1, rfl, rfl, SqT.of ho1, atI_nat (j := 0) rfl, _, rfl, _, _, 0, w2, rfl, rfl, SqT.of ho2, atI_nat (j := 0) rfl, (by show 3 ≤ sizeLine; decide), fun t9 n9 => ?_⟩
        generalize eH9 : upd H8 t9 _ = H9
        have s9 : Same H8 H9 := eH9 ▸ same_upd n9
        have h9 : H9 t9 = some _ := eH9 ▸ upd_same
        have ho1 := s9 _ _ ho1
        have ho2 := s9 _ _ ho2
        have hd1 := Dp.same s9 hd1
        have hd2 := Dp.same s9 hd2
        refine ⟨_, .d (.list [.str z, d1, d2]), rfl, .lst (SqL.of h9) (.cons (.str _) (.cons hd1 (.cons hd2 .nil))), _, _, rfl, rfl, _, rfl, iteF ?_⟩
        refine ⟨_, rfl, _, rfl, _, _, 0, w1, rfl, rfl, SqT.of ho1, atI_nat (j := 0) rfl, (by show 2 ≤ sizeLine; decide), fun t10 n10 => ?_⟩
        generalize eH10 : upd H9 t10 _ = H10
        have s10 : Same H9 H10 := eH10 ▸ same_upd n10
        have h10 : H10 t10 = some _ := eH10 ▸ upd_same
        have ho1 := s10 _ _ ho1
        have ho2 := s10 _ _ ho2
        have hd1 := Dp.same s10 hd1
        have hd2 := Dp.same s10 hd2
        refine ⟨_, .d (.tuple [.str z, d1]), rfl, .tup (SqT.of h10) (.cons (.str _) (.cons hd1 .nil)), _, _, rfl, rfl, _, rfl, iteF ?_⟩
        -- turned about, longer
        refine ⟨_, rfl, _, _, 0, w1, rfl, rfl, SqT.of ho1, atI_nat (j := 0) rfl, _, rfl, _, rfl, _, _, 0, w2, rfl, rfl, SqT.of ho2, atI_nat (j := 0) rfl, (by show 3 ≤ sizeLine; decide), fun t11 n11 => ?_⟩
        generalize eH11 : upd H10 t11 _ = H11
        have s11 : Same H10 H11 := eH11 ▸ same_upd n11
        have h11 : H11 t11 = some _ := eH11 ▸ upd_same
        have ho1 := s11 _ _ ho1
        have ho2 := s11 _ _ ho2
        have hd1 := Dp.same s11 hd1
        have hd2 := Dp.same s11 hd2
        refine ⟨_, .d (.tuple [d1, .str z, d2]), rfl, .tup (SqT.of h11) (.cons hd1 (.cons (.str _) (.cons hd2 .nil))), _, _, rfl, rfl, _, rfl, if_neg_of (by show (!decide (isAtomD (.tuple [d1, .str z, d2]) = false)) = false; rw [at3]; rfl) ?_⟩
        refine ⟨_, rfl, _, rfl, _, _, 0, w1, rfl, rfl, SqT.of ho1, atI_nat (j := 0) rfl, _, rfl, _, _, 0, w2, rfl, rfl, SqT.of ho2, atI_nat (j := 0) rfl, (by show 4 ≤ sizeLine; decide), fun t12 n12 => ?_⟩
        generalize eH12 : upd H11 t12 _ = H12
        have s12 : Same H11 H12 := eH12 ▸ same_upd n12
        have h12 : H12 t12 = some _ := eH12 ▸ upd_same
        have hd1 := Dp.same s12 hd1
        have hd2 := Dp.same s12 hd2
        refine ⟨_, .d (.tuple [.str z, d1, d2, .int 1]), rfl, .tup (SqT.of h12) (.cons (.str _) (.cons hd1 (.cons hd2 (.cons (.int _) .nil)))), _, _, rfl, rfl, _, rfl, iteF ?_⟩
        exact ⟨_, _, _, _, _, rfl, ((((S7.same s8).same s9).same s10).same s11).same s12⟩
    · rintro σ' H2 ⟨v2, v3, v4, v5, v6, rfl, S2⟩
      refine ⟨fun σ' H' => (∃ v7 : Option V, σ' = [some (.ref a), some (.ref p), v2, v3, v4, v5, v6, v7]) ∧ Src H' p l, ?_, ?_⟩
      · refine ⟨(by show 0 ≤ sizeLine; decide), fun t1 n1 => ?_⟩
        generalize eH3 : upd H2 t1 _ = H3
        have s3 : Same H2 H3 := eH3 ▸ same_upd n1
        have h3 : H3 t1 = some _ := eH3 ▸ upd_same
        refine ⟨(by show 1 ≤ sizeLine; decide), fun t2 n2 => ?_⟩
        generalize eH4 : upd H3 t2 _ = H4
        have s4 : Same H3 H4 := eH4 ▸ same_upd n2
        have h4 : H4 t2 = some _ := eH4 ▸ upd_same
        refine ⟨(by show 3 ≤ sizeLine; decide), fun t3 n3 => ?_⟩
        generalize eH5 : upd H4 t3 _ = H5
        have s5 : Same H4 H5 := eH5 ▸ same_upd n3
        have h5 : H5 t3 = some _ := eH5 ▸ upd_same
        refine ⟨(by show 6 ≤ sizeLine; decide), fun l4 n4 => ?_⟩
        generalize eH6 : upd H5 l4 _ = H6
        have s6 : Same H5 H6 := eH6 ▸ same_upd n4
        have h6 : H6 l4 = some _ := eH6 ▸ upd_same
        refine ⟨l4, rfl, ⟨_, SqL.of h6⟩, for_list (K := K) (a := l4) (xs := [.non, .int 4, .str "<", .ref t1, .ref t2, .ref t3]) (fun i σ' H' => (∃ v7 : Option V, σ' = [some (.ref a), some (.ref p), v2, v3, v4, v5, v6, v7]) ∧ Same H6 H')
          ⟨⟨none, rfl⟩, .refl _⟩ (fun i σ' H' _ ⟨_, s⟩ => s.seq (SqL.of h6)) ?_ (fun σ' H' ⟨h, s⟩ => ⟨h, S2.same (s3.trans (s4.trans (s5.trans (s6.trans s))))⟩)⟩
        rintro i y σ' H' hi ⟨⟨v7, rfl⟩, s⟩
        suffices turn : ∃ d, Dp K H' y d ∧ isAtomD d = false by
          obtain ⟨d, hd, hv⟩ := turn
          refine ⟨_, rfl, _, .d d, rfl, hd, _, _, rfl, rfl, _, rfl, if_neg_of (by show (!decide (isAtomD d = false)) = false; rw [hv]; rfl) ?_⟩
          exact ⟨⟨_, rfl⟩, s⟩
        match i, hi with
        | 0, hi =>
          obtain rfl := (Option.some.inj hi).symm
          exact ⟨.none, .non, rfl⟩
        | 1, hi =>
          obtain rfl := (Option.some.inj hi).symm
          exact ⟨.int 4, .int _, rfl⟩
        | 2, hi =>
          obtain rfl := (Option.some.inj hi).symm
          exact ⟨.str "<", .str _, rfl⟩
        | 3, hi =>
          obtain rfl := (Option.some.inj hi).symm
          exact ⟨.tuple [], .tup (SqT.of (s _ _ (s6 _ _ (s5 _ _ (s4 _ _ h3))))) .nil, rfl⟩
        | 4, hi =>
          obtain rfl := (Option.some.inj hi).symm
          exact ⟨.tuple [.str "<"], .tup (SqT.of (s _ _ (s6 _ _ (s5 _ _ h4)))) (.cons (.str _) .nil), rfl⟩
        | 5, hi =>
          obtain rfl := (Option.some.inj hi).symm
          exact ⟨.tuple [.int 1, .int 2, .int 3], .tup (SqT.of (s _ _ (s6 _ _ h5))) (.cons (.int _) (.cons (.int _) (.cons (.int _) .nil))), rfl⟩
        | n + 6, hi => cases hi
      · rintro σ' H3 ⟨⟨v7, rfl⟩, S3⟩
        exact ⟨_, rfl, p, l, rfl, S3, fun H' => q H'⟩
end
end K03
namespace K03
open PySem PySem.Spec PyProof.Rows L2 He TL EL
def dd__wall : EL.DefE := ⟨fun K => (ga K "_wall"), "_wall", "_wall", defArgs s__wall, defBody s__wall, defScope s__wall, []⟩
def dd_is_whole : EL.DefE := ⟨fun K => (ga K "is_whole"), "is_whole", "is_whole", defArgs s_is_whole, defBody s_is_whole, defScope s_is_whole, []⟩
def dd_common_divisor : EL.DefE := ⟨fun K => (ga K "common_divisor"), "common_divisor", "common_divisor", defArgs s_common_divisor, defBody s_common_divisor, defScope s_common_divisor, []⟩
def dd_is_value : EL.DefE := ⟨fun K => (ga K "is_value"), "is_value", "is_value", defArgs s_is_value, defBody s_is_value, defScope s_is_value, []⟩
def dd_is_term : EL.DefE := ⟨fun K => (ga K "is_term"), "is_term", "is_term", defArgs s_is_term, defBody s_is_term, defScope s_is_term, []⟩
def dd_is_atom : EL.DefE := ⟨fun K => (ga K "is_atom"), "is_atom", "is_atom", defArgs s_is_atom, defBody s_is_atom, defScope s_is_atom, []⟩
def dd_Cell___init__ : EL.DefE := ⟨fun K => (ma K (ga K "Cell") "__init__"), "__init__", "Cell.__init__", defArgs s_Cell___init__, defBody s_Cell___init__, defScope s_Cell___init__, []⟩
def dd_Cell_term : EL.DefE := ⟨fun K => (ma K (ga K "Cell") "term"), "term", "Cell.term", defArgs s_Cell_term, defBody s_Cell_term, defScope s_Cell_term, []⟩
def dd_Cell_of : EL.DefE := ⟨fun K => (He5.wf K (ga K "Cell") "staticmethod" "of"), "of", "Cell.of", defArgs s_Cell_of, defBody s_Cell_of, defScope s_Cell_of, []⟩
def dd__law_begin : EL.DefE := ⟨fun K => (ga K "_law_begin"), "_law_begin", "_law_begin", defArgs s__law_begin, defBody s__law_begin, defScope s__law_begin, []⟩
def dd__law_draw : EL.DefE := ⟨fun K => (ga K "_law_draw"), "_law_draw", "_law_draw", defArgs s__law_draw, defBody s__law_draw, defScope s__law_draw, []⟩
def dd__law_divisor : EL.DefE := ⟨fun K => (ga K "_law_divisor"), "_law_divisor", "_law_divisor", defArgs s__law_divisor, defBody s__law_divisor, defScope s__law_divisor, []⟩
def dd__law_term : EL.DefE := ⟨fun K => (ga K "_law_term"), "_law_term", "_law_term", defArgs s__law_term, defBody s__law_term, defScope s__law_term, []⟩
def dd__law_odd : EL.DefE := ⟨fun K => (ga K "_law_odd"), "_law_odd", "_law_odd", defArgs s__law_odd, defBody s__law_odd, defScope s__law_odd, []⟩
def dd__law_side : EL.DefE := ⟨fun K => (ga K "_law_side"), "_law_side", "_law_side", defArgs s__law_side, defBody s__law_side, defScope s__law_side, []⟩
def dd__law_made : EL.DefE := ⟨fun K => (ga K "_law_made"), "_law_made", "_law_made", defArgs s__law_made, defBody s__law_made, defScope s__law_made, []⟩
def dd__law_term_of : EL.DefE := ⟨fun K => (ga K "_law_term_of"), "_law_term_of", "_law_term_of", defArgs s__law_term_of, defBody s__law_term_of, defScope s__law_term_of, []⟩
def dd__law_cells_hold : EL.DefE := ⟨fun K => (ga K "_law_cells_hold"), "_law_cells_hold", "_law_cells_hold", defArgs s__law_cells_hold, defBody s__law_cells_hold, defScope s__law_cells_hold, []⟩
def dd__law_is : EL.DefE := ⟨fun K => (ga K "_law_is"), "_law_is", "_law_is", defArgs s__law_is, defBody s__law_is, defScope s__law_is, []⟩
def dd_law : EL.DefE := ⟨fun K => (ga K "law"), "law", "law", defArgs s_law, defBody s_law, defScope s_law, []⟩
def fn : List EL.DefE := [dd__wall, dd_is_whole, dd_common_divisor, dd_is_value, dd_is_term, dd_is_atom, dd_Cell___init__, dd_Cell_term, dd_Cell_of, dd__law_begin, dd__law_draw, dd__law_divisor, dd__law_term, dd__law_odd, dd__law_side, dd__law_made, dd__law_term_of, dd__law_cells_hold, dd__law_is, dd_law]
def fa : List He.Fa := [.glo "_wall", .glo "is_whole", .glo "common_divisor", .glo "is_value", .glo "is_term", .glo "is_atom", .glo "_law_begin", .glo "_law_draw", .glo "_law_divisor", .glo "_law_term", .glo "_law_odd", .glo "_law_side", .glo "_law_made", .glo "_law_term_of", .glo "_law_cells_hold", .glo "_law_is", .glo "law", .glo "NotSingle", .glo "Conditions", .glo "Cell", .glo "AskError", .exc "AskError", .glo "NoCell", .exc "NoCell", .glo "NoCondition", .exc "NoCondition", .glo "SIGNS", .glo "NEGATED", .glo "PLACES", .int "MOST_COLUMNS" 3, .free "ValueError", .free "super", .free "isinstance", .free "int", .free "bool", .free "abs", .free "tuple", .free "len", .free "str", .free "list", .free "staticmethod", .free "range", .exm "NoCell" "NoCell" true, .mkr "Cell", .meth "Cell" "term", .noat "Cell" "place", .noat "Cell" "at"]
def exL (K : PySem.W.Frag) : List Bool := [excCB K (ga K "NoCell"), decide (PySem.W.kitOne K (.ref (ga K "NoCell")) (.type "ValueError") = some true), ocB K (ga K "Cell"), smB K (ga K "Cell") "of", tupB K "PLACES" [.str "old", .str "first", .str "second"], tupB K "SIGNS" [.str "<", .str "<=", .str "=", .str "!="]]
def ex (K : PySem.W.Frag) : Bool := (exL K).all id
theorem txt_of {K : PySem.W.Frag} {h : Heap} {mg : Str → Option Value} (X : K.In h) (G : h.Ns mainGlobals mg) (c : EL.SaysE fa fn ex K) : Txt K mg := by
  have m := c.ex_
  exact ⟨He.glo_ok X G (c.fact 0 (by rfl)),
    He.glo_ok X G (c.fact 1 (by rfl)),
    He.glo_ok X G (c.fact 2 (by rfl)),
    He.glo_ok X G (c.fact 3 (by rfl)),
    He.glo_ok X G (c.fact 4 (by rfl)),
    He.glo_ok X G (c.fact 5 (by rfl)),
    He.glo_ok X G (c.fact 6 (by rfl)),
    He.glo_ok X G (c.fact 7 (by rfl)),
    He.glo_ok X G (c.fact 8 (by rfl)),
    He.glo_ok X G (c.fact 9 (by rfl)),
    He.glo_ok X G (c.fact 10 (by rfl)),
    He.glo_ok X G (c.fact 11 (by rfl)),
    He.glo_ok X G (c.fact 12 (by rfl)),
    He.glo_ok X G (c.fact 13 (by rfl)),
    He.glo_ok X G (c.fact 14 (by rfl)),
    He.glo_ok X G (c.fact 15 (by rfl)),
    He.glo_ok X G (c.fact 16 (by rfl)),
    He.glo_ok X G (c.fact 17 (by rfl)),
    He.glo_ok X G (c.fact 18 (by rfl)),
    He.glo_ok X G (c.fact 19 (by rfl)),
    xc_of (He.glo_ok X G (c.fact 20 (by rfl))) (He.exc_ok (c.fact 21 (by rfl))),
    xc_of (He.glo_ok X G (c.fact 22 (by rfl))) (He.exc_ok (c.fact 23 (by rfl))),
    xc_of (He.glo_ok X G (c.fact 24 (by rfl))) (He.exc_ok (c.fact 25 (by rfl))),
    He.glo_ok X G (c.fact 26 (by rfl)),
    He.glo_ok X G (c.fact 27 (by rfl)),
    He.glo_ok X G (c.fact 28 (by rfl)),
    gv_int (He.int_ok X G (c.fact 29 (by rfl))),
    He.free_ok X G (c.fact 30 (by rfl)),
    He.free_ok X G (c.fact 31 (by rfl)),
    He.free_ok X G (c.fact 32 (by rfl)),
    He.free_ok X G (c.fact 33 (by rfl)),
    He.free_ok X G (c.fact 34 (by rfl)),
    He.free_ok X G (c.fact 35 (by rfl)),
    He.free_ok X G (c.fact 36 (by rfl)),
    He.free_ok X G (c.fact 37 (by rfl)),
    He.free_ok X G (c.fact 38 (by rfl)),
    He.free_ok X G (c.fact 39 (by rfl)),
    He.free_ok X G (c.fact 40 (by rfl)),
    He.free_ok X G (c.fact 41 (by rfl)),
    He.exm_ok (c.fact 42 (by rfl)),
    He.mkr_ok (c.fact 43 (by rfl)),
    He.meth_ok (c.fact 44 (by rfl)),
    He.noat_ok (c.fact 45 (by rfl)),
    He.noat_ok (c.fact 46 (by rfl)),
    c.def_ 0 (d := dd__wall) rfl,
    c.def_ 1 (d := dd_is_whole) rfl,
    c.def_ 2 (d := dd_common_divisor) rfl,
    c.def_ 3 (d := dd_is_value) rfl,
    c.def_ 4 (d := dd_is_term) rfl,
    c.def_ 5 (d := dd_is_atom) rfl,
    c.def_ 6 (d := dd_Cell___init__) rfl,
    c.def_ 7 (d := dd_Cell_term) rfl,
    c.def_ 8 (d := dd_Cell_of) rfl,
    c.def_ 9 (d := dd__law_begin) rfl,
    c.def_ 10 (d := dd__law_draw) rfl,
    c.def_ 11 (d := dd__law_divisor) rfl,
    c.def_ 12 (d := dd__law_term) rfl,
    c.def_ 13 (d := dd__law_odd) rfl,
    c.def_ 14 (d := dd__law_side) rfl,
    c.def_ 15 (d := dd__law_made) rfl,
    c.def_ 16 (d := dd__law_term_of) rfl,
    c.def_ 17 (d := dd__law_cells_hold) rfl,
    c.def_ 18 (d := dd__law_is) rfl,
    c.def_ 19 (d := dd_law) rfl,
    excCB_ok (exG m 0 (by rfl)),
    of_decide_eq_true (exG m 1 (by rfl)),
    ocB_ok (exG m 2 (by rfl)),
    smB_ok (exG m 3 (by rfl)),
    fun H => tupB_ok (exG m 4 (by rfl)) H,
    fun H => tupB_ok (exG m 5 (by rfl)) H⟩
def loose : List Str := ["_wall", "AskError", "NoCell", "NoCondition", "NotSingle", "SIGNS", "NEGATED", "is_whole", "common_divisor", "is_value", "PLACES", "MOST_COLUMNS", "is_term", "is_atom", "Conditions", "Cell", "_law_begin", "_law_draw", "_law_divisor", "_law_term", "_law_odd", "_law_side", "_law_made", "_law_term_of", "_law_cells_hold", "_law_is"]
abbrev R : PySem.W.OpenRow := PySem.W.OpenLaw.row PySem.Challenge.rw_endlessasks_k03_terms_and_atoms
abbrev hk : PySem.W.Hook := hookE 6 fa fn ex
def ob (s : PySem.W.SharedT) : AlM := obsEG 6 fa fn ex (HandSHeadRun.getT s)
theorem ob_eq (s : PySem.W.SharedT) : ob s = hk.obs s.abs := obsEG_eq (HandSHeadRun.getT_eq s)
theorem run (w : World) : HandSHeadRun.RunEq R (PySem.W.view R.prog [30]) hk ob 8000 loose w :=
  PySem.W.byRow2 "special-get-raises" (P := fun w => HandSHeadRun.RunEq R (PySem.W.view R.prog [30]) hk ob 8000 loose w) (fun w => by intro os; kernel_rfl) (fun w => by intro os; kernel_rfl) w
end K03
namespace K03
open PySem PySem.Spec PyProof.Rows L2 He TL EL
theorem facts {P : Program} {w : World} {K : PySem.W.Frag} {mg : Str → Option Value} {f : Addr} (T : Txt K mg) (hfa : mg ("law" : Str) = some (.ref f)) :
    ∃ fd : FuncData, (∀ (s : Shared) (v : Value), BindsTo s fd ⟨[v], []⟩ [("_law_script", v)]) ∧ ∀ base : Heap, FnOk P w K mg base CX0 8 f fd ["_law_script"] (spLaw K) := by
  obtain ⟨fd, F⟩ := T.f_law
  have e := hfa.symm.trans T.g_law
  cases e
  have b := FunD.bindsA (ps := ["_law_script"]) F (fun _ _ _ _ _ _ us hl => match us, hl with | [_], _ => rfl)
  exact ⟨fd, fun s v => b s [v] rfl, fun base => ok_law T F⟩
end K03
open PySem PySem.W PySem.Calls PyProof.Rows
set_option maxHeartbeats 0 in
theorem PySem.Challenge.cw_endlessasks_k03_terms_and_atoms_holds : PySem.Challenge.rw_endlessasks_k03_terms_and_atoms.Holds := by
  w_on; o_law
  refine HandSHeadRun.head_any (r := OpenLaw.row PySem.Challenge.rw_endlessasks_k03_terms_and_atoms) (q := view (OpenLaw.row PySem.Challenge.rw_endlessasks_k03_terms_and_atoms).prog [30]) (H := K03.hk) (ob := K03.ob) (M := 8000) (loose := K03.loose) (d := HandSHeadRun.topDef (OpenLaw.row PySem.Challenge.rw_endlessasks_k03_terms_and_atoms).prog 30) (kwd := []) K03.ob_eq
    (by kernel_rfl) (fun s => by kernel_rfl) K03.run (by kernel_rfl) (by kernel_rfl) (by kernel_rfl) (by rfl) (by first | assumption | decide +kernel) (by decide +kernel) ⟨rfl, rfl, rfl, rfl, rfl, by decide +kernel⟩ ?hw ?hc
  case hw => w_witness2
  case hc =>
    refine L2.walk_ofE (l := PySem.Challenge.rw_endlessasks_k03_terms_and_atoms) (n := 63) (k := 8) (x := "_law_script") (CX := L2.CX0) rfl (by decide) (by kernel_rfl) ⟨rfl, by decide, by decide⟩ ?F (fun _ _ _ _ z => z)
    intro w mg fa h Y G hmg0
    obtain ⟨K, KX, c⟩ := Y
    have hmg : mg ("law" : PySem.Str) = some (.ref fa) := by
      have e : (HandSHeadRun.topDef (OpenLaw.row PySem.Challenge.rw_endlessasks_k03_terms_and_atoms).prog 30).name = ("law" : PySem.Str) := by kernel_rfl
      rw [← e]
      exact hmg0
    obtain ⟨fd, hb, hF⟩ := K03.facts (P := (PySem.Challenge.rw_endlessasks_k03_terms_and_atoms).prog) (w := w) (K03.txt_of KX G c) hmg
    exact ⟨K, fd, K03.spLaw K, KX, hb, fun H a ns hl _ hS => ⟨a, ns, rfl, hS, hl, fun _ => rfl⟩, fun base _ _ => hF base⟩
