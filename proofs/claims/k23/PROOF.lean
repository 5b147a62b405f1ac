import PyProof.Rows.All
import Wide.All
import OpenK.AllK
import Wide.FinOn
import KE.KStateDown
import HandS.ForMost
import HandS.ForExc
import HandS.More
import HandS.Wide
import HandS.IsInst
import HandS.ExcIs
import HandS.FStr
import HandS.Defaults
import HandS.TupAny
import HandS.TupLe
import HandS.Deep
import HandS.Flow
import HandS.Walk
import HandS.Head0
import HandS.Head1
import HandS.Head2
import HandS.HeadEnd
import HandS.HeadHook1
import HandS.HeadHook2
import HandS.HeadNt
import HandS.ExcField
import KE.KExcSuper
import HandS.SlotsOwn
import KE.KOpsOwn
import HandS.Star
import HandS.DictComp
import HandS.Conv
import HandS.HeadHook3
import HandS.WrittenGet
import HandS.Style
import KE.KExcIs
import KE.KEqDict
import HandS.Zip
import KE.KDictCopyH
import HandS.HotCalls
import HandS.SuiteRaise
import KE.KDictZip
import KE.KDictItemsList
import HandS.ListItems
import HandS.DictTup
import KE.GoesEnum
import HandS.TupSets
import HandS.TupAny
import HandS.SortInts
import PySem.Challenge.RW_endlessasks_k23_shapes_of_values
set_option Elab.async false
set_option linter.all false
set_option maxRecDepth 100000
namespace EL
/-- the greatest common divisor, as the loop leaves it -/
def cd (a b : Int) : Int := ((Nat.gcd a.natAbs b.natAbs : Nat) : Int)
def nrm (t b : Int) : Int × Int := if b < 0 then ((-t) / cd (-t) (-b), (-b) / cd (-t) (-b)) else (t / cd t b, b / cd t b)
theorem cd_pos {a b : Int} (h : b ≠ 0) : 0 < cd a b := by
  unfold cd
  have := Nat.gcd_pos_of_pos_right a.natAbs (n := b.natAbs) (by omega)
  omega
theorem cd_dvd_l (a b : Int) : cd a b ∣ a := by
  unfold cd
  exact Int.ofNat_dvd_left.mpr (Nat.gcd_dvd_left _ _)
theorem cd_dvd_r (a b : Int) : cd a b ∣ b := by
  unfold cd
  exact Int.ofNat_dvd_left.mpr (Nat.gcd_dvd_right _ _)
theorem cd_neg_l (a b : Int) : cd (-a) b = cd a b := by unfold cd; rw [Int.natAbs_neg]
theorem cd_neg_r (a b : Int) : cd a (-b) = cd a b := by unfold cd; rw [Int.natAbs_neg]
/-- a value in lowest terms -/
def Low (a b : Int) : Prop := 0 < b ∧ cd a b = 1
theorem cd_div {a b : Int} (hb : b ≠ 0) : cd (a / cd a b) (b / cd a b) = 1 := by
  have hp := cd_pos (a := a) hb
  have e : ∀ x : Int, cd a b ∣ x → (x / cd a b).natAbs = x.natAbs / Nat.gcd a.natAbs b.natAbs := fun x hx => by
    rw [Int.natAbs_ediv_of_dvd hx]
    rfl
  show ((Nat.gcd (a / cd a b).natAbs (b / cd a b).natAbs : Nat) : Int) = 1
  rw [e a (cd_dvd_l a b), e b (cd_dvd_r a b), Nat.gcd_div (Nat.gcd_dvd_left _ _) (Nat.gcd_dvd_right _ _), Nat.div_self (Nat.gcd_pos_of_pos_right _ (by omega))]
  rfl
theorem nrm_low {t b : Int} (hb : b ≠ 0) : Low (nrm t b).1 (nrm t b).2 := by
  unfold nrm
  by_cases h : b < 0
  · rw [if_pos h]
    have hp := cd_pos (a := -t) (b := -b) (by omega)
    refine ⟨?_, cd_div (by omega)⟩
    exact Int.ediv_pos_of_pos_of_dvd (by omega) (Int.le_of_lt hp) (cd_dvd_r _ _)
  · rw [if_neg h]
    have hp := cd_pos (a := t) (b := b) hb
    refine ⟨?_, cd_div hb⟩
    exact Int.ediv_pos_of_pos_of_dvd (by omega) (Int.le_of_lt hp) (cd_dvd_r _ _)
theorem nrm_eq {t b : Int} (hb : b ≠ 0) : (nrm t b).1 * b = t * (nrm t b).2 := by
  unfold nrm
  by_cases h : b < 0
  · rw [if_pos h]
    have hp := cd_pos (a := -t) (b := -b) (by omega)
    obtain ⟨u, hu⟩ := cd_dvd_l (-t) (-b)
    obtain ⟨v, hv⟩ := cd_dvd_r (-t) (-b)
    generalize cd (-t) (-b) = g at *
    have e1 : -t / g = u := by rw [hu, Int.mul_ediv_cancel_left _ (by omega)]
    have e2 : -b / g = v := by rw [hv, Int.mul_ediv_cancel_left _ (by omega)]
    show -t / g * b = t * (-b / g)
    rw [e1, e2]
    have ht : t = -(g * u) := by omega
    have hb' : b = -(g * v) := by omega
    rw [ht, hb', Int.mul_neg, Int.neg_mul, Int.mul_left_comm, Int.mul_comm g u, Int.mul_assoc, Int.mul_left_comm u g v]
  · rw [if_neg h]
    have hp := cd_pos (a := t) (b := b) hb
    obtain ⟨u, hu⟩ := cd_dvd_l t b
    obtain ⟨v, hv⟩ := cd_dvd_r t b
    generalize cd t b = g at *
    have e1 : t / g = u := by rw [hu, Int.mul_ediv_cancel_left _ (by omega)]
    have e2 : b / g = v := by rw [hv, Int.mul_ediv_cancel_left _ (by omega)]
    show t / g * b = t * (b / g)
    rw [e1, e2, hu, hv, Int.mul_left_comm, Int.mul_assoc]
/-- two values in lowest terms that stand for one fraction are one -/
theorem low_unique {a b c d : Int} (h1 : Low a b) (h2 : Low c d) (h : a * d = c * b) : a = c ∧ b = d := by
  obtain ⟨hb, g1⟩ := h1
  obtain ⟨hd, g2⟩ := h2
  have c1 : Nat.gcd a.natAbs b.natAbs = 1 := by unfold cd at g1; omega
  have c2 : Nat.gcd c.natAbs d.natAbs = 1 := by unfold cd at g2; omega
  have hn : a.natAbs * d.natAbs = c.natAbs * b.natAbs := by rw [← Int.natAbs_mul, ← Int.natAbs_mul, h]
  have d1 : b.natAbs ∣ d.natAbs := by
    have : b.natAbs ∣ a.natAbs * d.natAbs := by rw [hn]; exact Nat.dvd_mul_left _ _
    exact (Nat.Coprime.symm (show Nat.Coprime a.natAbs b.natAbs from c1)).dvd_of_dvd_mul_left this
  have d2 : d.natAbs ∣ b.natAbs := by
    have : d.natAbs ∣ c.natAbs * b.natAbs := by rw [← hn]; exact Nat.dvd_mul_left _ _
    exact (Nat.Coprime.symm (show Nat.Coprime c.natAbs d.natAbs from c2)).dvd_of_dvd_mul_left this
  have e : b = d := by
    have := Nat.dvd_antisymm d1 d2
    omega
  subst e
  exact ⟨Int.eq_of_mul_eq_mul_right (by omega) h, rfl⟩
theorem nrm_scale {t b f : Int} (hb : b ≠ 0) (hf : f ≠ 0) : nrm (t * f) (b * f) = nrm t b := by
  have hbf : b * f ≠ 0 := Int.mul_ne_zero hb hf
  have l1 := nrm_low (t := t * f) hbf
  have l2 := nrm_low (t := t) hb
  have e1 := nrm_eq (t := t * f) hbf
  have e2 := nrm_eq (t := t) hb
  have u := low_unique l1 l2 (by
    generalize (nrm (t * f) (b * f)).1 = p at *
    generalize (nrm (t * f) (b * f)).2 = q at *
    generalize (nrm t b).1 = r at *
    generalize (nrm t b).2 = s at *
    -- p * (b f) = (t f) q ; r b = t s ; want p s = r q
    have hbf2 : p * b = t * q := by
      refine Int.eq_of_mul_eq_mul_right hf ?_
      rw [Int.mul_assoc, e1, Int.mul_assoc, Int.mul_comm f q, Int.mul_assoc]
    refine Int.eq_of_mul_eq_mul_right hb ?_
    calc p * s * b = (p * b) * s := by rw [Int.mul_assoc, Int.mul_comm s b, Int.mul_assoc]
      _ = (t * q) * s := by rw [hbf2]
      _ = (t * s) * q := by rw [Int.mul_assoc, Int.mul_comm q s, Int.mul_assoc]
      _ = r * b * q := by rw [e2]
      _ = r * q * b := by rw [Int.mul_assoc, Int.mul_comm b q, Int.mul_assoc])
  exact Prod.ext u.1 u.2
theorem nrm_one (t : Int) : nrm t 1 = (t, 1) := by
  have e : cd t 1 = 1 := by unfold cd; simp
  unfold nrm
  rw [if_neg (by omega), e]
  simp
end EL
namespace EL
open PySem PySem.Spec PyProof.Rows L2 He
/-! ### a def by its name -/
structure Dn (P : Program) (w : World) (K : PySem.W.Frag) (mg : Str → Option Value) (base : Heap) (CX : CXT) (k : Nat) (x : Str) (sp : Sp) : Prop where
  g : mg x = some (.ref (ga K x))
  kp : PySem.W.keepIn K (.ref (ga K x)) = true
  r : FnR P w K mg base CX k (ga K x) sp
section
variable {X : Cx} {CX : CXT} {k : Nat} {f : Addr} {sp : Sp} {E : L2.St → XK} {x : Str} {p pos : Pos} {e : Expr} {es : List Expr} {t : TA}
theorem run_fnRS {pins : List (Addr × Obj)} {σ : L2.St} {H : Hp} {s : Shared} {Q : VK} {us : List Value} {vs : List V} (F : FnR X.prog X.w X.K X.mg X.base CX k f sp) (hr : Room k X.A) (hx : PassesAt CX X σ (E σ))
    (I : Inv X pins σ H s) (r : Vals vs us) (h : sp vs H Q (E σ)) : wpAny (model X.prog X.w) X.A (call (.ref f) us) (EP X pins σ Q) X.xe s := by
  refine wpAny_call (codeAny_mono (F X.A X.stack s H us vs Q (E σ) hr I.env0 r h) fun r s' hq => ?_)
  cases r with
  | error e => exact hx pins H s e s' I hq
  | ok fl =>
    cases fl with
    | ret u => exact I.after hq
    | next => exact False.elim hq
    | brk => exact False.elim hq
    | cont => exact False.elim hq
theorem pe_fn (F : FnR X.prog X.w X.K X.mg X.base CX k f sp) (hr : Room k X.A) (hg : Gl X x) (hm : X.mg x = some (.ref f)) (hk : PySem.W.keepIn X.K (.ref f) = true) (hx : ∀ σ, PassesAt CX X σ (E σ))
    (ha : PA X (e :: es) t) (hdb : (x == ("__debug__" : Str)) = false := by decide) (he : starEach (e :: es) X.env = (false, eval e X.env) :: starEach es X.env := by rfl) (hpl : (backTo pos (starEach es X.env)).any (·.1) = false := by rfl) :
    PE X (.Call (.Name x p) (e :: es) [] pos) (tCallS sp E t) := by
  refine ⟨fun pins s σ H Q I h => ?_⟩
  refine wpAny_Call_Name_kw (ld_glob I hg hm ?_ hdb)
  refine PySem.W.callWith_K (h₀ := X.base) I.ok.mod.kin hk (thn (ha.run pos pins s σ H _ I h) fun us s1 ⟨vs, H1, I1, r, q⟩ => ⟨I1.kIn, ?_⟩) he hpl
  exact run_fnRS F hr (hx σ) I1 r q
/-- a call of a def that lets nothing out -/
theorem cl (D : Dn X.prog X.w X.K X.mg X.base CX0 k x sp) (hr : Room k X.A) (ha : PA X (e :: es) t) (hg : Gl X x := by rfl)
    (hdb : (x == ("__debug__" : Str)) = false := by decide) (he : starEach (e :: es) X.env = (false, eval e X.env) :: starEach es X.env := by rfl) (hpl : (backTo pos (starEach es X.env)).any (·.1) = false := by rfl) :
    PE X (.Call (.Name x p) (e :: es) [] pos) (tCallS sp (fun _ => E0) t) := pe_fn D.r hr hg D.g D.kp (fun _ _ _ _ _ _ _ h => h.elim) ha hdb he hpl
/-- a call of a def that may raise, where it raises nothing -/
theorem cl0 (D : Dn X.prog X.w X.K X.mg X.base (L2.CX X.prog X.w) k x sp) (hr : Room k X.A) (ha : PA X (e :: es) t) (hg : Gl X x := by rfl)
    (hdb : (x == ("__debug__" : Str)) = false := by decide) (he : starEach (e :: es) X.env = (false, eval e X.env) :: starEach es X.env := by rfl) (hpl : (backTo pos (starEach es X.env)).any (·.1) = false := by rfl) :
    PE X (.Call (.Name x p) (e :: es) [] pos) (tCallS sp (fun _ => E0) t) := pe_fn D.r hr hg D.g D.kp (fun σ pins H s e s' I h => passL pins σ H s e s' I h) ha hdb he hpl
/-- a call of a def that may raise -/
theorem clx {W : WX} (tk : Takes X W) (D : Dn X.prog X.w X.K X.mg X.base (L2.CX X.prog X.w) k x sp) (hr : Room k X.A) (ha : PA X (e :: es) t) (hg : Gl X x := by rfl)
    (hdb : (x == ("__debug__" : Str)) = false := by decide) (he : starEach (e :: es) X.env = (false, eval e X.env) :: starEach es X.env := by rfl) (hpl : (backTo pos (starEach es X.env)).any (·.1) = false := by rfl) :
    PE X (.Call (.Name x p) (e :: es) [] pos) (tCallS sp (WE W) t) := pe_fn D.r hr hg D.g D.kp (fun σ => passAt tk σ) ha hdb he hpl
/-- a module's name that holds a plain value -/
theorem pe_gv {v : V} {pos : Pos} (h : ∃ u, X.mg x = some u ∧ RelV v u) (hg : Gl X x := by rfl) (hd : (x == ("__debug__" : Str)) = false := by decide) : PE X (.Name x pos) (tC v) := by
  obtain ⟨u, h1, h2⟩ := h
  exact pe_glob hg h1 h2 hd
end
/-! ### own errors without an __init__ -/
structure XC (K : PySem.W.Frag) (mg : Str → Option Value) (x : Str) : Prop where
  g : mg x = some (.ref (ga K x))
  q : PySem.W.excIn K (ga K x) veBase "ValueError.__new__" = true
  k : PySem.W.keepIn K (.ref (ga K x)) = true
  b : PySem.W.subIn K (.ref (ga K x)) (.type "BaseException") = some true
  t : PySem.W.typeIn K (.ref (ga K x)) = some (.type "type")
/-- raise C('..') -/
theorem rs {X : Cx} {W : WX} {c m : Str} {j : Nat} {p p2 pos pos2 : Pos} (hc : X.calm = true) (tk : Takes X W) (x : XC X.K X.mg c) (hg : Gl X c) (hdb : (c == ("__debug__" : Str)) = false := by decide) :
    PS X (.Raise (some (.Call (.Name c p) [.Constant (.str m) j p2] [] pos)) none pos2) (fun _ σ H => W (.ref (ga X.K c)) none σ H) :=
  ps_raise hc tk (pmk_own PySem.F.excBase_ValueError x.q x.g x.k (raises_own x.b x.t) hg hdb)
/-! ### heaps -/
theorem same_upd {H : Hp} {p : Addr} {o : HO} (h : H p = none) : Same H (upd H p o) := fun b x e => by
  rw [upd_ne (ne_of_none e h)]
  exact e
theorem Same.seqT {K : PySem.W.Frag} {H H' : Hp} {a : Addr} {xs : List V} (e : Same H H') (h : SqT K H a xs) : SqT K H' a xs := by
  rcases h with (h | ⟨o, h⟩) | h
  · exact .inl (.inl (e _ _ h))
  · exact .inl (.inr ⟨o, e _ _ h⟩)
  · exact .inr h
/-- a new object: the heap behind is a letter -/
theorem newO {H : Hp} {o : HO} {Q : Addr → Hp → Prop} (h : ∀ p H', H p = none → Same H H' → H' p = some o → Q p H') : ∀ p, H p = none → Q p (upd H p o) := fun p hp => h p _ hp (same_upd hp) upd_same
theorem newV {H : Hp} {o : HO} {Q : V → Hp → Prop} (h : ∀ p H', H p = none → Same H H' → H' p = some o → Q (.ref p) H') : ∀ p, H p = none → Q (.ref p) (upd H p o) := fun p hp => h p _ hp (same_upd hp) upd_same
theorem ie {b : Bool} {A B : Prop} (h1 : b = true → A) (h2 : b = false → B) : if b = true then A else B := by
  cases b with
  | true => rw [if_pos rfl]; exact h1 rfl
  | false => rw [if_neg Bool.false_ne_true]; exact h2 rfl
theorem if_pos_of {b : Bool} {A B : Prop} (h : b = true) (a : A) : if b = true then A else B := by rw [if_pos h]; exact a
theorem if_neg_of {b : Bool} {A B : Prop} (h : b = false) (a : B) : if b = true then A else B := by rw [h, if_neg Bool.false_ne_true]; exact a
theorem small40 {n : Nat} (h : n ≤ 100000) : n ≤ sizeLine := Nat.le_trans h (by decide)
end EL
namespace EL
open PySem PySem.Spec PyProof.Rows L2 He
/-! ### the head: facts, defs and one more Bool -/
theorem xc_of {K : PySem.W.Frag} {mg : Str → Option Value} {x : Str} (g : mg x = some (.ref (ga K x))) (h : PySem.W.excIn K (ga K x) veBase "ValueError.__new__" = true ∧ PySem.W.keepIn K (.ref (ga K x)) = true ∧ PySem.W.subIn K (.ref (ga K x)) (.type "BaseException") = some true ∧
    PySem.W.typeIn K (.ref (ga K x)) = some (.type "type")) : XC K mg x := ⟨g, h.1, h.2.1, h.2.2.1, h.2.2.2⟩
theorem gv_int {mg : Str → Option Value} {x : Str} {i : Int} (h : ∃ t, mg x = some (.int i t)) : ∃ u, mg x = some u ∧ RelV (.int i) u := by
  obtain ⟨t, e⟩ := h
  exact ⟨_, e, t, rfl⟩
theorem gv_str {mg : Str → Option Value} {x z : Str} (h : ∃ t, mg x = some (.str z t)) : ∃ u, mg x = some u ∧ RelV (.str z) u := by
  obtain ⟨t, e⟩ := h
  exact ⟨_, e, t, rfl⟩
abbrev AlM : Type := AlD × Bool
def obsM (fa : List Fa) (fn : List DefD) (ex : PySem.W.Frag → Bool) (K : PySem.W.Frag) : AlM := (obsD fa fn K, ex K)
def obsMG (n : Nat) (fa : List Fa) (fn : List DefD) (ex : PySem.W.Frag → Bool) (g : Addr → Option Obj) : AlM := obsM fa fn ex (frG g (asD g n))
def valM (fn : List DefD) : AlM := (valD fn, true)
def hookM (n : Nat) (fa : List Fa) (fn : List DefD) (ex : PySem.W.Frag → Bool) : PySem.W.Hook where
  α := AlM
  obs := fun s => obsMG n fa fn ex s.heap.get?
  val := fun _ => valM fn
  says := fun _ h => ∃ K : PySem.W.Frag, K.In h ∧ SaysD fa fn K ∧ ex K = true
  of := fun _ _ e => ⟨_, frG_in, congrArg (fun z : AlM => z.1) e, congrArg (fun z : AlM => z.2) e⟩
  keeps := fun _ _ _ ⟨K, hK, c⟩ k => ⟨K, PySem.W.Frag.In.keeps hK k, c⟩
theorem obsMG_eq {n : Nat} {fa : List Fa} {fn : List DefD} {ex : PySem.W.Frag → Bool} {g : Addr → Option Obj} {s : Shared} (h : ∀ a, g a = s.heap.get? a) : obsMG n fa fn ex g = (hookM n fa fn ex).obs s := by
  have e : g = s.heap.get? := funext h
  rw [e] <;> rfl
end EL
namespace EL
open PySem PySem.Spec PyProof.Rows L2 He
/-! ### from a def's body to its Dn -/
section
variable {P : Program} {w : World} {K : PySem.W.Frag} {mg : Str → Option Value} {base : Heap} {CX : CXT} {k : Nat} {x : Str} {sp : Sp} {params : Arguments} {body : List Stmt} {scope : Scope} {dvs : List V} {fd : FuncData} {ps N : List Str}
theorem dnN (g : mg x = some (.ref (ga K x))) (F : FunD K x x params body scope [] [] (ga K x) fd)
    (hb : ∀ (kV doc pm : Value) (an : Option Addr) (cdv ct : Value) (us : List Value), us.length = ps.length → bindArgs (PySem.W.fnOf x x params body scope .none kV doc pm an cdv ct) ⟨us, []⟩ = pure (ps.zip us))
    (S : FnScope N ps scope) (len : ∀ vs H Q E, sp vs H Q E → vs.length = ps.length)
    (hbody : ∀ (cdv : Value) (A : Around) (outer : List Env) (s : Shared) (H : Hp) (vs : List V) (Q : VK) (E : XK), Room k (A.deeper (envOfC x scope s.heap.objs.size (ga K x) cdv)) → sp vs H Q E →
      ∃ t, PSs (cxOf CX P w K mg base N x scope (ga K x) cdv A outer s H E) body t ∧ t { nx := fun _ H' => Q .non H', rt := Q } (start N vs) H) : Dn P w K mg base CX (k + 1) x sp :=
  ⟨g, F.kp, ((F.ok S len hbody).raw (F.bindsN hb) .nil).imp fun vs H Q E h => by rw [List.append_nil]; exact h⟩
theorem Dn.mono {j : Nat} (D : Dn P w K mg base CX j x sp) (h : j ≤ k) : Dn P w K mg base CX k x sp := ⟨D.g, D.kp, D.r.mono h⟩
end
/-! ### data -/
inductive Kd where
  | non | bl | int | str | lst | tup | dct
  deriving DecidableEq
def kdN : Kd → String
  | .non => "NoneType"
  | .bl => "bool"
  | .int => "int"
  | .str => "str"
  | .lst => "list"
  | .tup => "tuple"
  | .dct => "dict"
def kd : PyData → Kd
  | .none => .non
  | .bool _ => .bl
  | .int _ => .int
  | .str _ => .str
  | .list _ => .lst
  | .tuple _ => .tup
  | .dict _ => .dct
def tyn (d : PyData) : String := kdN (kd d)
theorem SqL.ty {K : PySem.W.Frag} {H : Hp} {a : Addr} {xs : List V} (h : SqL K H a xs) : TyX K H (.ref a) (.type "list") := by
  rcases h with (h | ⟨o, h⟩) | ⟨o, its, n, h1, h2, _⟩
  · exact .base (.lst h)
  · exact .base (.frz h)
  · exact .kList h1 h2
theorem SqT.ty {K : PySem.W.Frag} {H : Hp} {a : Addr} {xs : List V} (h : SqT K H a xs) : TyX K H (.ref a) (.type "tuple") := by
  rcases h with (h | ⟨o, h⟩) | ⟨o, its, n, h1, h2, _⟩
  · exact .base (.tup h)
  · exact .fTuple h
  · exact .kTuple h1 h2
theorem Dp.ty {K : PySem.W.Frag} {H : Hp} {v : V} {d : PyData} (h : Dp K H v d) : TyX K H v (.type (tyn d)) := by
  cases h with
  | non => exact .base .non
  | bl b => exact .base (.bl b)
  | int i => exact .base (.int i)
  | str x => exact .base (.str x)
  | lst h _ => exact SqL.ty h
  | tup h _ => exact SqT.ty h
mutual
theorem Dp.same {K : PySem.W.Frag} {H H' : Hp} (s : Same H H') : ∀ {d : PyData} {v : V}, Dp K H v d → Dp K H' v d
  | _, _, .non => .non
  | _, _, .bl b => .bl b
  | _, _, .int i => .int i
  | _, _, .str x => .str x
  | _, _, .lst h a => .lst (s.seq h) (DpAll.same s a)
  | _, _, .tup h a => .tup (Same.seqT s h) (DpAll.same s a)
theorem DpAll.same {K : PySem.W.Frag} {H H' : Hp} (s : Same H H') : ∀ {ds : List PyData} {vs : List V}, DpAll K H vs ds → DpAll K H' vs ds
  | _, _, .nil => .nil
  | _, _, .cons a b => .cons (Dp.same s a) (DpAll.same s b)
end
theorem DpAll.length {K : PySem.W.Frag} {H : Hp} : ∀ {ds : List PyData} {vs : List V}, DpAll K H vs ds → vs.length = ds.length
  | _, _, .nil => rfl
  | _, _, .cons _ b => congrArg Nat.succ (DpAll.length b)
/-- isinstance's answers of data -/
def kIs (T k : Kd) : Bool := decide (k = T) || (decide (T = .int) && decide (k = .bl))
def isTy (T : Kd) (d : PyData) : Bool := kIs T (kd d)
theorem kit_k : ∀ T k : Kd, kitB (kdN k) (kdN T) = some (kIs T k) := by
  intro T k
  cases T <;> cases k <;> decide +kernel
theorem kit_d (K : PySem.W.Frag) (T : Kd) (d : PyData) : PySem.W.kitOne K (.type (tyn d)) (.type (kdN T)) = some (isTy T d) := kit_ty (kit_k T (kd d))
/-- a thing: data, or some object that is none of the five -/
inductive Th where
  | d (d : PyData)
  | o
def ThOk (K : PySem.W.Frag) (H : Hp) (v : V) : Th → Prop
  | .d d => Dp K H v d
  | .o => ∃ t, TyX K H v t ∧ ∀ T : Kd, PySem.W.kitOne K t (.type (kdN T)) = some false
def Th.is (T : Kd) : Th → Bool
  | Th.d x => isTy T x
  | Th.o => false
/-- its type and isinstance's answers -/
theorem ThOk.ty {K : PySem.W.Frag} {H : Hp} {v : V} {th : Th} (h : ThOk K H v th) : ∃ t, TyX K H v t ∧ ∀ T : Kd, PySem.W.kitOne K t (.type (kdN T)) = some (th.is T) := by
  cases th with
  | d d => exact ⟨_, Dp.ty h, fun T => kit_d K T d⟩
  | o => exact h
def isWholeT (th : Th) : Bool := th.is .int && !th.is .bl
def isWholeD : PyData → Bool
  | .int _ => true
  | _ => false
theorem isWholeT_d (d : PyData) : isWholeT (.d d) = isWholeD d := by cases d <;> rfl
def isValD : PyData → Bool
  | .tuple [.int a, .int b] => !decide (b < 1) && decide (cd a b = 1)
  | _ => false
def isValT : Th → Bool
  | Th.d x => isValD x
  | Th.o => false
end EL
namespace EL
open PySem PySem.Spec PyProof.Rows L2 He TL
/-! ### keywords alone -/
section
variable {K : PySem.W.Frag} {x qual : Str} {params : Arguments} {body : List Stmt} {scope : Scope} {dvs : List V} {kws : List (Str × V)} {f : Addr} {fd : FuncData} {ps : List Str}
theorem kbinds1 (F : FunD K x qual params body scope dvs kws f fd) (n : Nat) (ks : List Str) (g : {α : Type} → List α → List α → List α → List α) (hd : dvs ≠ [])
    (hrel : ∀ {vs ds zs : List V} {us its ws : List Value}, Vals vs us → Vals ds its → Vals zs ws → Vals (g vs ds zs) (g us its ws))
    (h : ∀ (T : Addr) (kV doc pm : Value) (an : Option Addr) (cdv ct : Value) (us its ws : List Value), us.length = n → its.length = dvs.length → ws.length = ks.length →
      ∃ k, bindArgs (PySem.W.fnOf x qual params body scope (.ref T) kV doc pm an cdv ct) ⟨us, ks.zip ws⟩ = seqItems? (.ref T) >>= k ∧ k (some its.toArray) = pure (ps.zip (g us its ws))) :
    ∃ its : List Value, KBn K fd ps n ks (fun us ws => g us its ws) (fun vs zs => g vs dvs zs) := by
  obtain ⟨oc, od, dV, kV, doc, pm, an, cdv, ct, osl, rfl, lk, hcd, hD, hK⟩ := F.ex
  rcases hD with ⟨e, _⟩ | ⟨_, T, o, its, m, rfl, lT, oT, rT⟩
  · exact absurd e hd
  · refine ⟨its, ⟨fun s us ws X h1 h2 => ?_, fun r rz => hrel r rT rz⟩⟩
    obtain ⟨k, e1, e2⟩ := h T kV doc pm an cdv ct us its ws h1 rT.length.symm h2
    refine BindsTo.of_looks fun M => ?_
    rw [e1]
    exact looks_items X lT oT (.of_pure e2)
end
section
variable {X : Cx} {CX : CXT} {k : Nat} {f : Addr} {fd : FuncData} {ps ks : List Str} {sp : Sp} {E : XK} {x : Str} {p pos : Pos} {kws : List Keyword} {tk : TA} {g : List Value → List Value → List Value} {gV : List V → List V → List V}
/-- f(k = v, ..) -/
theorem pe_callN0 (F : FnOk X.prog X.w X.K X.mg X.base CX k f fd ps sp) (hr : Room k X.A) (hg : Gl X x) (hm : X.mg x = some (.ref f)) (hk : PySem.W.keepIn X.K (.ref f) = true) (hb : KBn X.K fd ps 0 ks g gV) (hx : Passes CX X E)
    (hkw : PK X kws tk) (hall : (backToKw pos (keywordEach kws X.env)).all (·.1.isSome) = true := by rfl) (hks : (backToKw pos (keywordEach kws X.env)).filterMap (·.1) = ks := by rfl)
    (hdb : (x == ("__debug__" : Str)) = false := by decide) (hpl : ((backTo pos (starEach [] X.env)).any (·.1) || (backToKw pos (keywordEach kws X.env)).any (·.1.isNone)) = false := by rfl) :
    PE X (.Call (.Name x p) [] kws pos) (tCallN 0 ks.length sp gV E tNil tk) := by
  refine ⟨fun pins s σ H Q I h => ?_⟩
  refine wpAny_Call_Name_kw (ld_glob I hg hm ?_ hdb)
  refine PySem.W.callWith_KW0 (h₀ := X.base) I.ok.mod.kin hk hall ?_ hpl
  refine thn (hkw.run pos pins s σ H _ I h) fun ws s2 ⟨zs, H2, I2, rz, l1, l2, q2⟩ => ⟨I2.kIn, ?_⟩
  rw [hks]
  exact run_fnN (us := []) (vs := []) F hr hb hx I2 .nil rz rfl l2 q2
end
/-! ### texts of numbers -/
theorem str_nil (x : Str) : Str.empty ++ x = x := ext_tl (by rw [tl_append]; rfl)
theorem natDigits_len {n k : Nat} (hk : 0 < k) (h : n < 10 ^ k) : (numL n).length ≤ k := numL_len hk h
/-- the signs of an int -/
def intL (a : Int) : List Nat := if a < 0 then 45 :: numL a.natAbs else numL a.natAbs
theorem tl_int (a : Int) : tl (Str.ofString (toString a)) = intL a := by
  cases a with
  | ofNat n => exact tl_num n
  | negSucc n =>
    unfold intL
    rw [if_pos (by omega), tl_ofString]
    show ("-" ++ Nat.repr (n + 1)).toList.map Char.toNat = 45 :: numL (n + 1)
    rw [String.toList_append, List.map_append, Nat.toList_repr]
    rfl
theorem numL_len1000 {n : Nat} (h : n < 2 ^ 1000) : (numL n).length ≤ 1000 := numL_len (by decide) (Nat.lt_of_lt_of_le h (Nat.pow_le_pow_left (by decide) _))
theorem len_int {a : Int} (h : a.natAbs < 2 ^ 1000) : (Str.ofString (toString a)).length ≤ 1001 := by
  rw [len_tl, tl_int]
  have := numL_len1000 h
  unfold intL
  split
  · rw [List.length_cons]
    omega
  · omega
/-- what a text of digits is worth -/
def isDig (c : Nat) : Bool := decide (48 ≤ c) && decide (c ≤ 57)
def rdD (cs : List Nat) : Option Nat := if (1 ≤ cs.length ∧ cs.length ≤ 40) ∧ cs.all isDig = true ∧ ¬ (1 < cs.length ∧ cs.head? = some 48) then some (NumText.digitsVal cs) else none
def optV : Option Nat → V
  | none => .non
  | some n => .int n
/-- a text as value reads it -/
def rdP (cs : List Nat) : List Nat × Option (List Nat) := match par [47] [] cs with
  | none => (cs, none)
  | some (a, b) => (a, some b)
def rdB : Option (List Nat) → Option Nat
  | none => some 1
  | some u => match rdD u with
    | some b => if 2 ≤ b then some b else none
    | none => none
def rdF (below : Bool) : Option Nat → Option Nat → Option (Int × Int)
  | some b, some t => if (below && decide (t = 0)) || decide (Nat.gcd t b ≠ 1) then none else some (if below then -(t : Int) else (t : Int), (b : Int))
  | _, _ => none
def rdV (cs : List Nat) : Option (Int × Int) :=
  rdF (decide (cs.take 1 = [45])) (rdB (rdP (if decide (cs.take 1 = [45]) = true then cs.drop 1 else cs)).2) (rdD (rdP (if decide (cs.take 1 = [45]) = true then cs.drop 1 else cs)).1)
theorem par_split {s : Nat} : ∀ (cs acc a b : List Nat), par [s] acc cs = some (a, b) → acc ++ cs = a ++ s :: b
  | [], acc, a, b, h => by simp [par] at h
  | c :: r, acc, a, b, h => by
    by_cases e : c = s
    · subst e
      rw [par_hit (by simp [pre])] at h
      injection h with h
      injection h with h1 h2
      rw [← h1, ← h2]
      rfl
    · rw [par_miss (pre_of_head [] r e)] at h
      have := par_split r (acc ++ [c]) a b h
      rw [← this]
      simp
end EL
namespace EL
open PySem PySem.Spec PyProof.Rows L2 He TL
theorem tl_cut_to (z : Str) (k : Nat) : tl (cutS z none (some (k : Int))) = (tl z).take k := by
  show ((tl z).drop (HT.sIx z.length 0 none)).take (HT.sIx z.length z.length (some (k : Int)) - HT.sIx z.length 0 none) = (tl z).take k
  rw [HT.sIx_none, HT.sIx_nat, List.drop_zero, Nat.sub_zero, len_tl]
  by_cases h : k ≤ (tl z).length
  · rw [Nat.min_eq_left h]
  · rw [Nat.min_eq_right (by omega), List.take_length, List.take_of_length_le (by omega)]
theorem tl_cut_from (z : Str) (k : Nat) : tl (cutS z (some (k : Int)) none) = (tl z).drop k := by
  show ((tl z).drop (HT.sIx z.length 0 (some (k : Int)))).take (HT.sIx z.length z.length none - HT.sIx z.length 0 (some (k : Int))) = (tl z).drop k
  rw [HT.sIx_none, HT.sIx_nat, len_tl]
  by_cases h : k ≤ (tl z).length
  · rw [Nat.min_eq_left h, List.take_of_length_le (by rw [List.length_drop]; omega)]
  · rw [Nat.min_eq_right (by omega), List.drop_length, List.drop_of_length_le (by omega), List.take_nil]
theorem tl_digits : tl ("0123456789" : Str) = [48, 49, 50, 51, 52, 53, 54, 55, 56, 57] := by decide +kernel
theorem mem_digits (c : Nat) : decide (c ∈ tl ("0123456789" : Str)) = isDig c := by
  rw [tl_digits]
  unfold isDig
  rw [← Bool.decide_and]
  refine decide_eq_decide.mpr ?_
  simp only [List.mem_cons, List.not_mem_nil, or_false]
  omega
theorem str_one {c : Nat} {y : Str} {d : Nat} (hy : tl y = [d]) : decide (V.str ⟨#[c]⟩ = V.str y) = decide (c = d) := by
  refine decide_eq_decide.mpr ⟨fun e => ?_, fun e => ?_⟩
  · have e1 : (⟨#[c]⟩ : Str) = y := by injection e
    rw [← e1] at hy
    have h2 : [c] = [d] := hy
    injection h2
  · have e1 : (⟨#[c]⟩ : Str) = y := ext_tl (by rw [hy, e])
    rw [e1]
theorem allDigits_of {cs : List Nat} (h : cs.all isDig = true) : NumText.AllDigits cs := fun c hc => by
  have := List.all_eq_true.mp h c hc
  unfold isDig at this
  rw [Bool.and_eq_true, decide_eq_true_eq, decide_eq_true_eq] at this
  exact this
theorem str_eq_tl {x y : Str} : decide (V.str x = V.str y) = decide (tl x = tl y) := decide_eq_decide.mpr ⟨fun e => by injection e with e; rw [e], fun e => by rw [ext_tl e]⟩
/-- a statement, then the rest, with a word between them -/
def tMid (t u : TS) : TS := fun D σ H => ∃ Mid : L2.St → Hp → Prop, t { D with nx := Mid } σ H ∧ ∀ σ' H', Mid σ' H' → u D σ' H'
theorem pss_mid {X : Cx} {st : Stmt} {rest : List Stmt} {t u : TS} (h1 : PS X st t) (h2 : PSs X rest u) : PSs X (st :: rest) (tMid t u) := by
  refine ⟨fun pins s σ H D I h => ?_⟩
  obtain ⟨Mid, hm, hu⟩ := h
  refine wpAny_execs_cons (thn (h1.run pins s σ H { D with nx := Mid } I hm) fun f s1 q => ?_)
  cases f with
  | next =>
    obtain ⟨σ', H', I', q⟩ := q
    exact h2.run pins s1 σ' H' D I' (hu σ' H' q)
  | ret v => exact q
  | brk => exact q
  | cont => exact q
end EL
namespace EL
open PySem PySem.Spec PyProof.Rows L2 He TL
/-! ### more facts of K, as Bools -/
theorem exG {l : List Bool} {b : Bool} (m : l.all id = true) (i : Nat) (h : l[i]? = some b) : b = true := List.all_eq_true.mp m b (List.mem_of_getElem? h)
def excCB (K : PySem.W.Frag) (D : Addr) : Bool := eqO (PySem.W.findIn K (.ref D) "__getattribute__") (some (some (.builtin "BaseException.__getattribute__"))) && (eqO (PySem.W.findIn K (.ref D) "__getattr__") (some none) &&
  (decide (PySem.W.subIn K (.ref D) (.type "BaseException") = some true) && (PySem.W.hasDictIn K D && (eqO (PySem.W.findIn K (.ref D) "__class__") (some (some (.builtin "object.__class__"))) &&
  (eqO (PySem.W.specialIn K (.builtin "object.__class__") "__get__") (some (some (.builtin "getset_descriptor.__get__"))) && (decide (PySem.W.takesIn K (.builtin "object.__class__") = some true) && decide (PySem.W.mroIn K D (.type "object") = some true)))))))
theorem excCB_ok {K : PySem.W.Frag} {D : Addr} (h : excCB K D = true) : ExcC K D := by
  obtain ⟨h1, h⟩ := ba h
  obtain ⟨h2, h⟩ := ba h
  obtain ⟨h3, h⟩ := ba h
  obtain ⟨h4, h⟩ := ba h
  obtain ⟨h5, h⟩ := ba h
  obtain ⟨h6, h⟩ := ba h
  obtain ⟨h7, h8⟩ := ba h
  exact ⟨eqO_ok h1, eqO_ok h2, of_decide_eq_true h3, h4, eqO_ok h5, eqO_ok h6, of_decide_eq_true h7, of_decide_eq_true h8⟩
/-- isinstance(e, c), e the exception of the class at D that the suite holds -/
theorem call_isX {X : Cx} {a : Addr} {oe : Obj} {pn : List (Addr × Obj)} {cls : Value} {d : Option Addr} (D : Addr) (C : ExcC X.K D) (hz : Zc cls d oe) (hf : ∃ vs, oe.data = .fields vs) :
    CallR (X.suite a ((a, oe) :: pn)) (.builtin "isinstance") (fun xs H Q => cls = .ref D ∧ d = none ∧ rIsE X.K D a xs H Q) := by
  intro pins s σ H xs us Q I r h
  obtain ⟨rfl, rfl, h⟩ := h
  exact call_isE C hz hf pins s σ H xs us Q I r h
/-! ### the law's source of draws -/
/-- the list [cells, place, digits, state] -/
def Src (H : Hp) (p l : Addr) : Prop := ∃ (ns : List Int) (i : Nat) (c r : Int), H p = some (.lst [.ref l, .int i, .int c, .int r]) ∧ H l = some (.lst (ns.map V.int)) ∧ 0 ≤ c ∧ 0 ≤ r ∧ r < 2147483647
/-- all but p is as it was -/
def But (p : Addr) (H H' : Hp) : Prop := ∀ b o, H b = some o → b ≠ p → H' b = some o
theorem But.refl (p : Addr) (H : Hp) : But p H H := fun _ _ h _ => h
theorem But.trans {p : Addr} {H H1 H2 : Hp} (a : But p H H1) (b : But p H1 H2) : But p H H2 := fun c o h n => b c o (a c o h n) n
theorem But.of {p : Addr} {H H' : Hp} (s : Same H H') : But p H H' := fun b o h _ => s b o h
theorem but_upd {p : Addr} {H : Hp} {o : HO} : But p H (upd H p o) := fun b x h n => by rw [upd_ne n]; exact h
theorem Src.same {H H' : Hp} {p l : Addr} (s : Same H H') (h : Src H p l) : Src H' p l := by
  obtain ⟨ns, i, c, r, h1, h2, h3⟩ := h
  exact ⟨ns, i, c, r, s _ _ h1, s _ _ h2, h3⟩
theorem Src.lst {H : Hp} {p l : Addr} (h : Src H p l) : ∃ xs, H p = some (.lst xs) := by
  obtain ⟨ns, i, c, r, h1, _⟩ := h
  exact ⟨_, h1⟩
theorem Src.lst2 {H : Hp} {p l : Addr} (h : Src H p l) : ∃ xs, H l = some (.lst xs) := by
  obtain ⟨ns, i, c, r, h1, h2, _⟩ := h
  exact ⟨_, h2⟩
theorem Src.ne {H : Hp} {p l : Addr} (h : Src H p l) : l ≠ p := fun e => by
  obtain ⟨ns, i, c, r, h1, h2, _⟩ := h
  subst e
  rw [h1] at h2
  injection h2 with h2
  injection h2 with h2
  cases ns with
  | nil => cases h2
  | cons x r => injection h2 with h2; cases h2
/-- another thing changes -/
theorem Src.but {H H' : Hp} {p l x : Addr} (s : But x H H') (h : Src H p l) (h1 : p ≠ x) (h2 : l ≠ x) : Src H' p l := by
  obtain ⟨ns, i, c, r, k1, k2, h3⟩ := h
  exact ⟨ns, i, c, r, s _ _ k1 h1, s _ _ k2 h2, h3⟩
theorem But.seqT {K : PySem.W.Frag} {p a : Addr} {H H' : Hp} {xs : List V} (s : But p H H') (hp : ∃ ys, H p = some (.lst ys)) (h : SqT K H a xs) : SqT K H' a xs := by
  obtain ⟨ys, hp⟩ := hp
  rcases h with (h | ⟨o, h⟩) | h
  · exact .inl (.inl (s _ _ h (ne_of h hp (by intro z; cases z))))
  · exact .inl (.inr ⟨o, s _ _ h (ne_of h hp (by intro z; cases z))⟩)
  · exact .inr h
end EL
namespace EL
open PySem PySem.Spec PyProof.Rows L2 He TL
/-! ### a written value is read back -/
def txtV (a b : Int) : Str := if b = 1 then (toString a : String) else ((toString a : String) : Str) ++ "/" ++ ((toString b : String) : Str)
theorem numL_head {n : Nat} (h : 1 ≤ n) : (numL n).head? ≠ some 48 := by
  induction n using Nat.strongRecOn with
  | _ n ih =>
    by_cases h10 : n < 10
    · rw [numL_lt h10]
      intro e
      have e2 : 48 + n = 48 := Option.some.inj e
      omega
    · rw [numL_step (by omega)]
      have hh := ih (n / 10) (by omega) (by omega)
      cases hc : numL (n / 10) with
      | nil => exact absurd hc (numL_ne _)
      | cons x r =>
        rw [hc] at hh
        exact hh
theorem rdD_num {n : Nat} (h : n < 10 ^ 40) : rdD (numL n) = some n := by
  unfold rdD
  have hl : (numL n).length ≤ 40 := numL_len (by decide) h
  have h1 : 1 ≤ (numL n).length := by
    cases hc : numL n with
    | nil => exact absurd hc (numL_ne _)
    | cons x r => simp
  rw [if_pos, numL_val]
  refine ⟨⟨h1, hl⟩, ?_, ?_⟩
  · refine List.all_eq_true.mpr fun c hc => ?_
    have := numL_digits n c hc
    unfold isDig
    rw [Bool.and_eq_true, decide_eq_true_eq, decide_eq_true_eq]
    exact this
  · rintro ⟨h2, h3⟩
    by_cases h0 : n < 10
    · rw [numL_lt h0] at h2
      exact absurd h2 (Nat.lt_irrefl 1)
    · exact numL_head (by omega) h3
theorem tl_txtV (a b : Int) : tl (txtV a b) = if b = 1 then intL a else intL a ++ 47 :: intL b := by
  unfold txtV
  by_cases h : b = 1
  · rw [if_pos h, if_pos h]
    exact tl_int a
  · rw [if_neg h, if_neg h, tl_append, tl_append, tl_int, tl_int, show tl ("/" : Str) = [47] by decide +kernel, List.append_assoc]
    rfl
theorem numL_first (n : Nat) : (numL n).take 1 ≠ [45] := fun e => by
  have : (45 : Nat) ∈ (numL n).take 1 := by rw [e]; simp
  exact numL_free (n := n) (s := 45) (.inl (by decide)) (List.mem_of_mem_take this)
theorem numL_app_first (n : Nat) (r : List Nat) : (numL n ++ r).take 1 ≠ [45] := fun e => by
  cases hc : numL n with
  | nil => exact absurd hc (numL_ne _)
  | cons x q =>
    rw [hc] at e
    have := numL_first n
    rw [hc] at this
    exact this e
theorem rdP_num (n : Nat) : rdP (numL n) = (numL n, none) := by
  unfold rdP
  rw [par_none1 (numL_free (.inl (by decide)))]
theorem rdP_two (n m : Nat) : rdP (numL n ++ 47 :: numL m) = (numL n, some (numL m)) := by
  unfold rdP
  rw [show numL n ++ 47 :: numL m = numL n ++ ([47] ++ numL m) from rfl, par_part1 (numL_free (.inl (by decide)))]
  rfl
theorem rdV_txt {a b : Int} (h : Low a b) (ha : a.natAbs < 10 ^ 40) (hb : b.natAbs < 10 ^ 40) : rdV (tl (txtV a b)) = some (a, b) := by
  obtain ⟨hb0, hg⟩ := h
  have hg' : Nat.gcd a.natAbs b.natAbs = 1 := by unfold cd at hg; omega
  have hbL : intL b = numL b.natAbs := by
    unfold intL
    rw [if_neg (by omega)]
  -- the body behind the sign, by its parts
  have body : ∀ cs : List Nat, cs = (if b = 1 then numL a.natAbs else numL a.natAbs ++ 47 :: numL b.natAbs) → rdB (rdP cs).2 = some b.natAbs ∧ rdD (rdP cs).1 = some a.natAbs := by
    intro cs hcs
    by_cases h1 : b = 1
    · rw [if_pos h1] at hcs
      rw [hcs, rdP_num]
      refine ⟨?_, rdD_num ha⟩
      rw [h1]
      rfl
    · rw [if_neg h1] at hcs
      rw [hcs, rdP_two]
      refine ⟨?_, rdD_num ha⟩
      simp only [rdB, rdD_num hb]
      exact if_pos (by omega)
  rw [tl_txtV]
  unfold rdV
  by_cases hn : a < 0
  · have e : (if b = 1 then intL a else intL a ++ 47 :: intL b) = 45 :: (if b = 1 then numL a.natAbs else numL a.natAbs ++ 47 :: numL b.natAbs) := by
      unfold intL
      rw [if_pos hn, if_neg (show ¬ b < 0 by omega)]
      split <;> rfl
    rw [e]
    obtain ⟨e1, e2⟩ := body _ rfl
    rw [show decide ((45 :: (if b = 1 then numL a.natAbs else numL a.natAbs ++ 47 :: numL b.natAbs)).take 1 = [45]) = true from rfl, if_pos rfl, List.drop_one, List.tail_cons, e1, e2]
    show (if (true && decide (a.natAbs = 0) || decide (Nat.gcd a.natAbs b.natAbs ≠ 1)) = true then none else some (-(a.natAbs : Int), (b.natAbs : Int))) = _
    rw [if_neg]
    · rw [show -(a.natAbs : Int) = a by omega, show (b.natAbs : Int) = b by omega]
    · rw [decide_eq_false (show ¬ a.natAbs = 0 by omega), Bool.and_false, Bool.false_or]
      exact fun z => of_decide_eq_true z hg'
  · have e : (if b = 1 then intL a else intL a ++ 47 :: intL b) = (if b = 1 then numL a.natAbs else numL a.natAbs ++ 47 :: numL b.natAbs) := by
      unfold intL
      rw [if_neg hn, if_neg (show ¬ b < 0 by omega)]
    rw [e]
    have hf : (if b = 1 then numL a.natAbs else numL a.natAbs ++ 47 :: numL b.natAbs).take 1 ≠ [45] := by
      split
      · exact numL_first _
      · exact numL_app_first _ _
    obtain ⟨e1, e2⟩ := body _ rfl
    rw [decide_eq_false hf, if_neg Bool.false_ne_true, e1, e2]
    show (if (false && decide (a.natAbs = 0) || decide (Nat.gcd a.natAbs b.natAbs ≠ 1)) = true then none else some ((a.natAbs : Int), (b.natAbs : Int))) = _
    rw [if_neg]
    · rw [show (a.natAbs : Int) = a by omega, show (b.natAbs : Int) = b by omega]
    · rw [Bool.false_and, Bool.false_or]
      exact fun z => of_decide_eq_true z hg'
theorem nrm_abs (t b : Int) : (nrm t b).1.natAbs ≤ t.natAbs ∧ (nrm t b).2.natAbs ≤ b.natAbs := by
  have k : ∀ x g : Int, g ∣ x → (x / g).natAbs ≤ x.natAbs := fun x g h => by
    rw [Int.natAbs_ediv_of_dvd h]
    exact Nat.div_le_self _ _
  unfold nrm
  split
  · have h1 := k (-t) _ (cd_dvd_l (-t) (-b))
    have h2 := k (-b) _ (cd_dvd_r (-t) (-b))
    rw [Int.natAbs_neg] at h1 h2
    exact ⟨h1, h2⟩
  · exact ⟨k t _ (cd_dvd_l t b), k b _ (cd_dvd_r t b)⟩
theorem nrm_neg {t b : Int} (h : b < 0) : nrm (-t) (-b) = nrm t b := by
  unfold nrm
  rw [if_pos h, if_neg (by omega)]
end EL
namespace EL
open PySem PySem.Spec PyProof.Rows L2 He TL
/-! ### texts of values, the other way about -/
theorem digitsVal_snoc' (cs : List Nat) (d : Nat) : NumText.digitsVal (cs ++ [d]) = NumText.digitsVal cs * 10 + (d - 48) := by
  unfold NumText.digitsVal
  rw [List.foldl_append]
  rfl
theorem snoc_of {cs : List Nat} (h : cs ≠ []) : ∃ i d, cs = i ++ [d] := ⟨cs.dropLast, cs.getLast h, (List.dropLast_concat_getLast h).symm⟩
theorem numL_back : ∀ (k : Nat) (cs : List Nat), cs.length = k → cs ≠ [] → cs.all isDig = true → ¬ (1 < cs.length ∧ cs.head? = some 48) → numL (NumText.digitsVal cs) = cs ∧ (cs.head? ≠ some 48 → 1 ≤ NumText.digitsVal cs)
  | 0, cs, hk, hne, _, _ => absurd (List.length_eq_zero_iff.mp hk) hne
  | k + 1, cs, hk, hne, ha, hz => by
    obtain ⟨i, d, rfl⟩ := snoc_of hne
    rw [List.all_append, Bool.and_eq_true] at ha
    have hd : 48 ≤ d ∧ d ≤ 57 := by
      have := ha.2
      simp only [List.all_cons, List.all_nil, Bool.and_true, isDig, Bool.and_eq_true, decide_eq_true_eq] at this
      exact this
    rw [digitsVal_snoc']
    cases hi : i with
    | nil =>
      have e : NumText.digitsVal [] = 0 := rfl
      rw [e, Nat.zero_mul, Nat.zero_add, numL_lt (by omega)]
      refine ⟨?_, fun hh => ?_⟩
      · show [48 + (d - 48)] = [d]
        rw [show 48 + (d - 48) = d by omega]
      · have : d ≠ 48 := fun z => hh (by rw [z]; rfl)
        omega
    | cons x r =>
      have hl : i.length = k := by
        rw [List.length_append, List.length_singleton] at hk
        omega
      have hh : (i ++ [d]).head? = i.head? := by rw [hi]; rfl
      have h48 : i.head? ≠ some 48 := fun z => hz ⟨by rw [List.length_append, hi]; simp, by rw [hh]; exact z⟩
      obtain ⟨e1, e2⟩ := numL_back k i hl (by rw [hi]; simp) ha.1 (fun z => h48 z.2)
      have e3 := e2 h48
      rw [← hi]
      refine ⟨?_, fun _ => by omega⟩
      rw [numL_step (by omega), show (NumText.digitsVal i * 10 + (d - 48)) / 10 = NumText.digitsVal i by omega, show (NumText.digitsVal i * 10 + (d - 48)) % 10 = d - 48 by omega, e1, show 48 + (d - 48) = d by omega]
theorem rdD_inv {cs : List Nat} {n : Nat} (h : rdD cs = some n) : cs = numL n ∧ n < 10 ^ 40 := by
  unfold rdD at h
  split at h
  · rename_i c
    injection h with h
    have hne : cs ≠ [] := fun e => by rw [e] at c; exact absurd c.1.1 (by decide)
    have e := (numL_back cs.length cs rfl hne c.2.1 c.2.2).1
    rw [h] at e
    refine ⟨e.symm, ?_⟩
    have hl : (numL n).length ≤ 40 := by rw [e]; exact c.1.2
    exact Nat.lt_of_not_le fun hge => by
      have : ∀ (k m : Nat), 10 ^ k ≤ m → k + 1 ≤ (numL m).length := by
        intro k
        induction k with
        | zero =>
          intro m _
          cases hm : numL m with
          | nil => exact absurd hm (numL_ne _)
          | cons x r => simp
        | succ k ih =>
          intro m hm
          have h10 : 10 ≤ m := Nat.le_trans (by rw [Nat.pow_succ]; have : 0 < 10 ^ k := Nat.pow_pos (by decide); omega) hm
          rw [numL_step h10, List.length_append]
          have := ih (m / 10) ((Nat.le_div_iff_mul_le (by decide)).mpr (by rw [Nat.pow_succ] at hm; exact hm))
          simp only [List.length_singleton]
          omega
      have := this 40 n hge
      omega
  · cases h
theorem spl_par {s : Nat} : ∀ (cs acc : List Nat), spl [s] 0 acc cs = (match par [s] acc cs with | none => [acc ++ cs] | some (a, b) => a :: spl [s] 0 [] b)
  | [], acc => by
    rw [spl_nil]
    simp [par]
  | c :: r, acc => by
    by_cases e : c = s
    · subst e
      rw [spl_hit (by simp [pre]), par_hit (by simp [pre])]
      rfl
    · rw [spl_miss (pre_of_head [] r e), par_miss (pre_of_head [] r e), spl_par r (acc ++ [c])]
      cases par [s] (acc ++ [c]) r with
      | none => simp
      | some ab => rfl
theorem par_some {s : Nat} : ∀ (cs acc : List Nat), s ∈ cs → ∃ a b, par [s] acc cs = some (a, b)
  | [], _, h => by cases h
  | c :: r, acc, h => by
    by_cases e : c = s
    · subst e
      exact ⟨acc, r, by rw [par_hit (by simp [pre])]; rfl⟩
    · rw [par_miss (pre_of_head [] r e)]
      exact par_some r _ (by
        rcases List.mem_cons.mp h with z | z
        · exact absurd z.symm e
        · exact z)
theorem rdD_free {cs : List Nat} (h : 47 ∈ cs) : rdD cs = none := by
  unfold rdD
  refine if_neg fun c => ?_
  have := List.all_eq_true.mp c.2.1 47 h
  exact absurd this (by decide)
/-- what read_value takes, text_of writes -/
theorem rdV_inv {cs : List Nat} {a b : Int} (h : rdV cs = some (a, b)) : tl (txtV a b) = cs ∧ Low a b ∧ a.natAbs < 10 ^ 40 ∧ b.natAbs < 10 ^ 40 := by
  unfold rdV at h
  generalize hbd : (if decide (cs.take 1 = [45]) = true then cs.drop 1 else cs) = bd at h
  cases hB : rdB (rdP bd).2 with
  | none =>
    rw [hB] at h
    cases h
  | some n =>
    cases hD : rdD (rdP bd).1 with
    | none =>
      rw [hB, hD] at h
      cases h
    | some m =>
      rw [hB, hD] at h
      generalize hbl : decide (cs.take 1 = [45]) = below at *
      have h' : (if (below && decide (m = 0) || decide (Nat.gcd m n ≠ 1)) = true then none else some (if below then -(m : Int) else (m : Int), (n : Int))) = some (a, b) := h
      split at h'
      · cases h'
      · rename_i c
        injection h' with h'
        injection h' with ea eb
        have hg : Nat.gcd m n = 1 := by
          cases hd : decide (Nat.gcd m n ≠ 1) with
          | true => rw [hd, Bool.or_true] at c; exact absurd rfl c
          | false => exact Decidable.not_not.mp (of_decide_eq_false hd)
        have hbz : below = true → m ≠ 0 := fun hb z => by
          rw [hb, z] at c
          exact c rfl
        obtain ⟨e1, m40⟩ := rdD_inv hD
        -- the body
        have body : bd = (if n = 1 then numL m else numL m ++ 47 :: numL n) ∧ 1 ≤ n ∧ n < 10 ^ 40 := by
          unfold rdP at hB e1
          cases hp : par [47] [] bd with
          | none =>
            rw [hp] at hB e1
            have en : 1 = n := Option.some.inj hB
            rw [if_pos en.symm]
            exact ⟨e1, by omega, by rw [← en]; decide⟩
          | some xy =>
            obtain ⟨x, y⟩ := xy
            rw [hp] at hB e1
            have hB' : (match rdD y with | some b => if 2 ≤ b then some b else none | none => none) = some n := hB
            cases hy : rdD y with
            | none =>
              rw [hy] at hB'
              cases hB'
            | some k =>
              rw [hy] at hB'
              have hB2 : (if 2 ≤ k then some k else none) = some n := hB'
              split at hB2
              · injection hB2 with hk
                subst hk
                obtain ⟨e2, k40⟩ := rdD_inv hy
                rw [if_neg (by omega)]
                have e3 : x = numL m := e1
                refine ⟨?_, by omega, k40⟩
                rw [← e3, ← e2]
                exact (par_split _ _ _ _ hp)
              · cases hB2
        obtain ⟨hbody, hn1, n40⟩ := body
        have hcs : cs = if below = true then 45 :: bd else bd := by
          cases below with
          | true =>
            have ht := of_decide_eq_true hbl
            rw [if_pos rfl] at hbd ⊢
            rw [← hbd, ← List.singleton_append, ← ht, List.take_append_drop]
          | false =>
            rw [if_neg Bool.false_ne_true] at hbd ⊢
            exact hbd
        have ebn : b.natAbs = n := by omega
        have eam : a.natAbs = m := by
          rw [← ea]
          split <;> omega
        refine ⟨?_, ⟨by omega, ?_⟩, by omega, by omega⟩
        · rw [tl_txtV, hcs, hbody]
          have hb1 : (b = 1) ↔ (n = 1) := by omega
          have hib : intL b = numL n := by
            unfold intL
            rw [if_neg (by omega), ebn]
          have hia : intL a = if below = true then 45 :: numL m else numL m := by
            unfold intL
            rw [eam]
            cases hbe : below with
            | true =>
              rw [hbe] at ea hbz
              have hm := hbz rfl
              rw [if_pos rfl] at ea ⊢
              rw [if_pos (by omega)]
            | false =>
              rw [hbe] at ea
              rw [if_neg Bool.false_ne_true] at ea ⊢
              rw [if_neg (by omega)]
          rw [hia, hib]
          by_cases h1 : n = 1
          · rw [if_pos h1, if_pos (hb1.mpr h1)]
          · rw [if_neg h1, if_neg (fun z => h1 (hb1.mp z))]
            cases below <;> rfl
        · unfold cd
          rw [eam, ebn, hg]
          rfl
theorem call_str_bool {X : Cx} : CallR X (.type "str") (fun xs H Q => ∃ b : Bool, xs = [.bl b] ∧ Q (.str (if b then "True" else "False")) H) := by
  intro pins s σ H xs us Q I r h
  obtain ⟨b, rfl, q⟩ := h
  obtain ⟨u, rfl, ru⟩ := vals1 r
  cases ru
  exact PySem.P.str_of_bool ⟨.str _, H, I.tok _, ⟨_, rfl⟩, q⟩
end EL
namespace EL
open PySem PySem.Spec PyProof.Rows L2 He TL ClX
/-! ### the head with defs at any address -/
def fnWA (K : PySem.W.Frag) (a : Addr) : FnW := match K.lookup a with
  | some ⟨_, _, .func fd, _⟩ => some (fd.name, fd.qualname, fd.params, fd.body, fd.scope, fd.globals, fd.closure, fd.builtins)
  | _ => none
structure DefE where
  ad : PySem.W.Frag → Addr
  name : Str
  qual : Str
  params : Arguments
  body : List Stmt
  scope : Scope
  dfl : List Dv := []
  kwd : List (Str × Dv) := []
def DefE.kws (K : PySem.W.Frag) (d : DefE) : List (Str × V) := d.kwd.map fun q => (q.1, q.2.v K)
def DefE.val (d : DefE) : FnW := some (d.name, d.qual, d.params, .stmts d.body, d.scope, mainGlobals, [], builtinsNs)
def DefE.dvs (K : PySem.W.Frag) (d : DefE) : List V := d.dfl.map (Dv.v K)
def DefE.ok (K : PySem.W.Frag) (d : DefE) : Bool := PySem.W.keepIn K (.ref (d.ad K)) && (match K.lookup (d.ad K) with
  | some ⟨_, _, .func fd, _⟩ => PySem.W.codeIn K fd.code d.qual && (dflB K fd.defaults (d.dvs K) && kwdB K fd.kwdefaults (d.kws K))
  | _ => false)
theorem DefE.funD {K : PySem.W.Frag} {d : DefE} (e : fnWA K (d.ad K) = d.val) (c : d.ok K = true) : ∃ fd, FunD K d.name d.qual d.params d.body d.scope (d.dvs K) (d.kws K) (d.ad K) fd := by
  obtain ⟨kp, c2⟩ := ba c
  unfold fnWA at e
  cases q : K.lookup (d.ad K) with
  | none =>
    rw [q] at c2
    cases c2
  | some o =>
    obtain ⟨oc, od, dt, osl⟩ := o
    rw [q] at c2 e
    cases dt with
    | func fd =>
      obtain ⟨n1, n2, n3, n4, n5, n6, n7, n8, n9, n10, n11, n12, n13, n14, n15⟩ := fd
      have e2 : (some (n1, n2, n3, n4, n5, n6, n7, n15) : FnW) = some (d.name, d.qual, d.params, .stmts d.body, d.scope, mainGlobals, [], builtinsNs) := e
      simp only [Option.some.injEq, Prod.mk.injEq] at e2
      obtain ⟨h1, h2, h3, h4, h5, h6, h7, h8⟩ := e2
      subst h1 h2 h3 h4 h5 h6 h7 h8
      have c3 : (PySem.W.codeIn K n13 d.qual && (dflB K n8 (d.dvs K) && kwdB K n9 (d.kws K))) = true := c2
      obtain ⟨k1, k2⟩ := ba c3
      obtain ⟨k3, k4⟩ := ba k2
      exact ⟨_, ⟨oc, od, n8, n9, n10, n11, n12, n13, n14, osl, rfl, q, k1, dflB_ok k3, kwdB_ok k4⟩, kp⟩
    | _ => cases c2
def obsE (fa : List Fa) (fn : List DefE) (ex : PySem.W.Frag → Bool) (K : PySem.W.Frag) : AlM := (((fa.all fun f => f.ok K) && fn.all fun d => d.ok K, fn.map fun d => fnWA K (d.ad K)), ex K)
def obsEG (n : Nat) (fa : List Fa) (fn : List DefE) (ex : PySem.W.Frag → Bool) (g : Addr → Option Obj) : AlM := obsE fa fn ex (frG g (He5.asA g n))
def valE (fn : List DefE) : AlM := ((true, fn.map DefE.val), true)
def SaysE (fa : List Fa) (fn : List DefE) (ex : PySem.W.Frag → Bool) (K : PySem.W.Frag) : Prop := obsE fa fn ex K = valE fn
def hookE (n : Nat) (fa : List Fa) (fn : List DefE) (ex : PySem.W.Frag → Bool) : PySem.W.Hook where
  α := AlM
  obs := fun s => obsEG n fa fn ex s.heap.get?
  val := fun _ => valE fn
  says := fun _ h => ∃ K : PySem.W.Frag, K.In h ∧ SaysE fa fn ex K
  of := fun _ _ e => ⟨_, frG_in, e⟩
  keeps := fun _ _ _ ⟨K, hK, c⟩ k => ⟨K, PySem.W.Frag.In.keeps hK k, c⟩
theorem obsEG_eq {n : Nat} {fa : List Fa} {fn : List DefE} {ex : PySem.W.Frag → Bool} {g : Addr → Option Obj} {s : Shared} (h : ∀ a, g a = s.heap.get? a) : obsEG n fa fn ex g = (hookE n fa fn ex).obs s := by
  have e : g = s.heap.get? := funext h
  rw [e] <;> rfl
section
variable {fa : List Fa} {fn : List DefE} {ex : PySem.W.Frag → Bool} {K : PySem.W.Frag}
theorem SaysE.fact (c : SaysE fa fn ex K) (i : Nat) {f : Fa} (h : fa[i]? = some f := by rfl) : f.ok K = true := by
  have c1 := (ba (show ((fa.all fun f => f.ok K) && fn.all fun d => d.ok K) = true from congrArg (fun z : AlM => z.1.1) c)).1
  exact List.all_eq_true.mp c1 f (List.mem_of_getElem? h)
theorem SaysE.ex_ (c : SaysE fa fn ex K) : ex K = true := congrArg (fun z : AlM => z.2) c
theorem SaysE.def_ (c : SaysE fa fn ex K) (i : Nat) {d : DefE} (h : fn[i]? = some d := by rfl) : ∃ fd, FunD K d.name d.qual d.params d.body d.scope (d.dvs K) (d.kws K) (d.ad K) fd := by
  have c2 := (ba (show ((fa.all fun f => f.ok K) && fn.all fun d => d.ok K) = true from congrArg (fun z : AlM => z.1.1) c)).2
  have e : fn.map (fun d => fnWA K (d.ad K)) = fn.map DefE.val := congrArg (fun z : AlM => z.1.2) c
  have e2 : (fn.map fun d => fnWA K (d.ad K))[i]? = (fn.map DefE.val)[i]? := by rw [e]
  rw [List.getElem?_map, List.getElem?_map, h] at e2
  exact DefE.funD (Option.some.inj e2) (List.all_eq_true.mp c2 d (List.mem_of_getElem? h))
end
/-! ### own classes -/
def kdL : List Kd := [.non, .bl, .int, .str, .lst, .tup, .dct]
theorem kdL_all (T : Kd) : T ∈ kdL := by cases T <;> decide
/-- what of the text an own class has -/
structure OC (K : PySem.W.Frag) (C : Addr) : Prop where
  cl : Cls K C
  ca : PySem.W.findIn K (.ref C) "__class__" = some (some (.builtin "object.__class__"))
  hn : PySem.W.specialIn K (.builtin "object.__class__") "__get__" = some (some (.builtin "getset_descriptor.__get__"))
  tk : PySem.W.takesIn K (.builtin "object.__class__") = some true
  ob : PySem.W.mroIn K C (.type "object") = some true
  to : ∀ T : Kd, PySem.W.kitOne K (.ref C) (.type (kdN T)) = some false
  of : ∀ T : Kd, PySem.W.kitOne K (.type (kdN T)) (.ref C) = some false
  self : PySem.W.kitOne K (.ref C) (.ref C) = some true
def ocB (K : PySem.W.Frag) (C : Addr) : Bool := (PySem.W.plainGet K C Str.empty && (PySem.W.hasDictIn K C && (PySem.W.plainOver K C && eqO (PySem.W.findIn K (.ref C) "__setattr__") (some (some (.builtin "object.__setattr__")))))) &&
  (eqO (PySem.W.findIn K (.ref C) "__class__") (some (some (.builtin "object.__class__"))) && (eqO (PySem.W.specialIn K (.builtin "object.__class__") "__get__") (some (some (.builtin "getset_descriptor.__get__"))) &&
  (decide (PySem.W.takesIn K (.builtin "object.__class__") = some true) && (decide (PySem.W.mroIn K C (.type "object") = some true) && ((kdL.all fun T => decide (PySem.W.kitOne K (.ref C) (.type (kdN T)) = some false)) &&
  ((kdL.all fun T => decide (PySem.W.kitOne K (.type (kdN T)) (.ref C) = some false)) && decide (PySem.W.kitOne K (.ref C) (.ref C) = some true)))))))
theorem ocB_ok {K : PySem.W.Frag} {C : Addr} (h : ocB K C = true) : OC K C := by
  obtain ⟨h1, h⟩ := ba h
  obtain ⟨a1, h1⟩ := ba h1
  obtain ⟨a2, h1⟩ := ba h1
  obtain ⟨a3, a4⟩ := ba h1
  obtain ⟨h2, h⟩ := ba h
  obtain ⟨h3, h⟩ := ba h
  obtain ⟨h4, h⟩ := ba h
  obtain ⟨h5, h⟩ := ba h
  obtain ⟨h6, h⟩ := ba h
  obtain ⟨h7, h8⟩ := ba h
  exact ⟨⟨a1, a2, a3, eqO_ok a4⟩, eqO_ok h2, eqO_ok h3, of_decide_eq_true h4, of_decide_eq_true h5, fun T => of_decide_eq_true (List.all_eq_true.mp h6 T (kdL_all T)), fun T => of_decide_eq_true (List.all_eq_true.mp h7 T (kdL_all T)), of_decide_eq_true h8⟩
theorem OC.ty {K : PySem.W.Frag} {C : Addr} (c : OC K C) {H : Hp} {a dx : Addr} {fs : List (Str × V)} (h : H a = some (.ins C dx fs)) : TyX K H (.ref a) (.ref C) := .base (.ins h c.cl c.ca c.hn c.tk c.ob)
/-- an instance as a thing -/
theorem OC.th {K : PySem.W.Frag} {C : Addr} (c : OC K C) {H : Hp} {a dx : Addr} {fs : List (Str × V)} (h : H a = some (.ins C dx fs)) : ThOk K H (.ref a) .o := ⟨.ref C, c.ty h, c.to⟩
theorem OC.isD {K : PySem.W.Frag} {C : Addr} (c : OC K C) (d : PyData) : PySem.W.kitOne K (.type (tyn d)) (.ref C) = some false := c.of (kd d)
/-! ### calls of methods, of static methods; making -/
def tMethE (C : Addr) (m : Str) (sp : Sp) (E : L2.St → XK) (ta : TE) (t : TA) : TE := fun σ H Q => ta σ H fun x H1 => ∃ a dx fs, x = .ref a ∧ H1 a = some (.ins C dx fs) ∧ fs.lookup m = none ∧ t σ H1 fun vs H2 => sp (x :: vs) H2 Q (E σ)
def tMakeE (C : Addr) (sp : Sp) (E : L2.St → XK) (t : TA) : TE := fun σ H Q => t σ H fun vs H1 => ∀ x dx, H1 x = Option.none → H1 dx = Option.none → dx ≠ x →
  sp (V.ref x :: vs) (upd (upd H1 dx (.own x)) x (.ins C dx [])) (fun v H2 => v = .non ∧ Q (.ref x) H2) (E σ)
def tSm (C : Addr) (sp : Sp) (E : L2.St → XK) (ta : TE) (t : TA) : TE := fun σ H Q => ta σ H fun x H1 => x = .ref C ∧ t σ H1 fun vs H2 => sp vs H2 Q (E σ)
structure Sm (K : PySem.W.Frag) (C : Addr) (m : Str) (f : Addr) : Prop where
  rd : CRead K C (.type "type")
  at_ : ∃ p, PySem.W.findCls K (.ref C) (.type "type") m = some (.get (.builtin "staticmethod.__get__") (.ref p) .none (.ref C)) ∧ ∃ rest, PySem.W.recIn K p "staticmethod" = some (.ref f :: rest)
  kp : PySem.W.keepIn K (.ref f) = true
def smB (K : PySem.W.Frag) (C : Addr) (m : Str) : Bool := PySem.W.readsIn K C (.type "type") && (eqO (PySem.W.specialIn K (.ref C) "__getattribute__") (some (some (.builtin "type.__getattribute__"))) &&
  (He5.wrapB K C "staticmethod" "staticmethod.__get__" m && PySem.W.keepIn K (.ref (He5.wf K C "staticmethod" m))))
theorem smB_ok {K : PySem.W.Frag} {C : Addr} {m : Str} (h : smB K C m = true) : Sm K C m (He5.wf K C "staticmethod" m) := by
  obtain ⟨h1, h⟩ := ba h
  obtain ⟨h2, h⟩ := ba h
  obtain ⟨h3, h4⟩ := ba h
  obtain ⟨k1, k2⟩ := He5.wrapB_ok h3
  exact ⟨⟨h1, eqO_ok h2⟩, ⟨_, k1, k2⟩, h4⟩
section
variable {X : Cx} {CX : CXT} {k : Nat} {C f : Addr} {m x : Str} {sp : Sp} {E : L2.St → XK} {o e : Expr} {es : List Expr} {ta : TE} {t : TA} {p apos pos : Pos} {pl : Sem Bool}
theorem pe_methE (he : PE X o ta) (c : Cls X.K C) (hm : Meth X.K C m f) (F : FnR X.prog X.w X.K X.mg X.base CX k f sp) (hr : Room k X.A) (hx : ∀ σ, PassesAt CX X σ (E σ)) (ha : PA X (e :: es) t)
    (hst : starEach (e :: es) X.env = (false, eval e X.env) :: starEach es X.env := by rfl) (hpl : (backTo pos (starEach es X.env)).any (·.1) = false := by rfl)
    (ht : eval (.Call (.Attribute o m apos) (e :: es) [] pos) X.env = (do
      let ov ← eval o X.env
      standAt apos.atName
      let (f, first) ← holding [ov] (getMethod ov m pl)
      callWith pos f first (backTo pos (starEach (e :: es) X.env)) (backToKw pos (keywordEach [] X.env))) := by rfl) :
    PE X (.Call (.Attribute o m apos) (e :: es) [] pos) (tMethE C m sp E ta t) := by
  refine ⟨fun pins s σ H Q I h => ?_⟩
  refine PySem.W.methodCall_KW (pl := pl) (thn (he.run pins s σ H _ I h) fun u s1 ⟨x, H1, I1, rx, a, dx, fs, ex, ea, l, q⟩ => ?_) ht
  subst ex
  obtain rfl : u = Value.ref a := rx
  refine getmeth_ok I1 ea c hm l ?_
  refine PySem.W.callWith_K (first := [.ref a]) (h₀ := X.base) I.ok.mod.kin hm.kp (thn (ha.run pos pins s1 σ H1 _ I1 q) fun us s2 ⟨vs, H2, I2, r, q2⟩ => ⟨I2.kIn, ?_⟩) hst hpl
  exact run_fnRS (us := .ref a :: us) (vs := .ref a :: vs) F hr (hx σ) I2 (.cons rfl r) q2
theorem pe_methE0 (he : PE X o ta) (c : Cls X.K C) (hm : Meth X.K C m f) (F : FnR X.prog X.w X.K X.mg X.base CX k f sp) (hr : Room k X.A) (hx : ∀ σ, PassesAt CX X σ (E σ))
    (ht : eval (.Call (.Attribute o m apos) [] [] pos) X.env = (do
      let ov ← eval o X.env
      standAt apos.atName
      let (f, first) ← holding [ov] (getMethod ov m pl)
      callWith pos f first (backTo pos (starEach [] X.env)) (backToKw pos (keywordEach [] X.env))) := by rfl) :
    PE X (.Call (.Attribute o m apos) [] [] pos) (tMethE C m sp E ta tNil) := by
  refine ⟨fun pins s σ H Q I h => ?_⟩
  refine PySem.W.methodCall_KW (pl := pl) (thn (he.run pins s σ H _ I h) fun u s1 ⟨x, H1, I1, rx, a, dx, fs, ex, ea, l, q⟩ => ?_) ht
  subst ex
  obtain rfl : u = Value.ref a := rx
  refine getmeth_ok I1 ea c hm l ?_
  exact PySem.W.callWith_K0 (first := [.ref a]) I1.kIn hm.kp (run_fnRS (us := [.ref a]) (vs := [.ref a]) F hr (hx σ) I1 (.cons rfl .nil) q)
theorem pe_smE (he : PE X o ta) (c : Sm X.K C m f) (F : FnR X.prog X.w X.K X.mg X.base CX k f sp) (hr : Room k X.A) (hx : ∀ σ, PassesAt CX X σ (E σ)) (ha : PA X (e :: es) t)
    (hst : starEach (e :: es) X.env = (false, eval e X.env) :: starEach es X.env := by rfl) (hpl : (backTo pos (starEach es X.env)).any (·.1) = false := by rfl)
    (ht : eval (.Call (.Attribute o m apos) (e :: es) [] pos) X.env = (do
      let ov ← eval o X.env
      standAt apos.atName
      let (f, first) ← holding [ov] (getMethod ov m pl)
      callWith pos f first (backTo pos (starEach (e :: es) X.env)) (backToKw pos (keywordEach [] X.env))) := by rfl) :
    PE X (.Call (.Attribute o m apos) (e :: es) [] pos) (tSm C sp E ta t) := by
  refine ⟨fun pins s σ H Q I h => ?_⟩
  refine PySem.W.methodCall_KW (pl := pl) (thn (he.run pins s σ H _ I h) fun u s1 ⟨x, H1, I1, rx, ex, q⟩ => ?_) ht
  subst ex
  obtain rfl : u = Value.ref C := rx
  obtain ⟨pa, h1, rest, h2⟩ := c.at_
  refine PySem.W.method_cls I1.kIn c.rd.ga (PySem.W.cls_bind I1.kIn c.rd.rd h1 ?_)
  refine wpAny_call (PySem.W.sm_get (s := { s1 with toks := s1.toks + 1 }) I1.kIn h2 (PySem.W.handed_on rfl ?_))
  have I2 := I1.tok (s1.toks + 1)
  refine PySem.W.callWith_K (first := []) (h₀ := X.base) I.ok.mod.kin c.kp (thn (ha.run pos pins _ σ H1 _ I2 q) fun us s2 ⟨vs, H2, I3, r, q2⟩ => ⟨I3.kIn, ?_⟩) hst hpl
  exact run_fnRS (us := us) (vs := vs) F hr (hx σ) I3 r q2
theorem run_makeE {pins : List (Addr × Obj)} {σ : L2.St} {H : Hp} {s : Shared} {Q : VK} {us : List Value} {vs : List V} (M : Mk X.K C f) (F : FnR X.prog X.w X.K X.mg X.base CX k f sp) (hr : Room (k + 1) X.A) (hx : PassesAt CX X σ (E σ)) (I : Inv X pins σ H s) (r : Vals vs us)
    (h : ∀ x dx, H x = Option.none → H dx = Option.none → dx ≠ x → sp (V.ref x :: vs) (upd (upd H dx (.own x)) x (.ins C dx [])) (fun v H2 => v = .non ∧ Q (.ref x) H2) (E σ)) :
    wpAny (model X.prog X.w) X.A (call (.ref C) us) (EP X pins σ Q) X.xe s := by
  have hq := h (s.heap.objs.size + 1) s.heap.objs.size (I.hok.fresh (Nat.le_succ _)) (I.hok.fresh (Nat.le_refl _)) (Nat.ne_of_lt (Nat.lt_succ_self _))
  have I2 := Inv.made (C := C) I
  have r2 : Vals (V.ref (s.heap.objs.size + 1) :: vs) (Value.ref (s.heap.objs.size + 1) :: us) := .cons rfl r
  refine wpAny_call (make_map (f := f) I.kIn M.makes M.init (beq_iff_eq.mp M.fn) (codeAny_mono (F _ X.stack _ _ (Value.ref (s.heap.objs.size + 1) :: us) _ _ (E σ) (hr.make C us []) (I2.env0.make C us []) r2 hq) fun r s' hq' => ?_))
  cases r with
  | error e => exact hx pins _ _ e s' I2 hq'
  | ok fl =>
    cases fl with
    | ret u =>
      obtain ⟨v, H', I3, rv, ev, q3⟩ := I2.after hq'
      subst ev
      exact ⟨rv, ⟨V.ref (s.heap.objs.size + 1), H', I3, rfl, q3⟩⟩
    | next => exact False.elim hq'
    | brk => exact False.elim hq'
    | cont => exact False.elim hq'
theorem pe_makeE (M : Mk X.K C f) (F : FnR X.prog X.w X.K X.mg X.base CX k f sp) (hr : Room (k + 1) X.A) (hm : X.mg x = some (.ref C)) (hx : ∀ σ, PassesAt CX X σ (E σ)) (ha : PA X (e :: es) t) (hg : Gl X x := by rfl) (hdb : (x == ("__debug__" : Str)) = false := by decide)
    (he : starEach (e :: es) X.env = (false, eval e X.env) :: starEach es X.env := by rfl) (hpl : (backTo pos (starEach es X.env)).any (·.1) = false := by rfl) : PE X (.Call (.Name x p) (e :: es) [] pos) (tMakeE C sp E t) := by
  refine ⟨fun pins s σ H Q I h => ?_⟩
  refine wpAny_Call_Name_kw (ld_glob I hg hm ?_ hdb)
  refine PySem.W.callWith_K (h₀ := X.base) I.ok.mod.kin M.kp (thn (ha.run pos pins s σ H _ I h) fun us s1 ⟨vs, H1, I1, r, q⟩ => ⟨I1.kIn, ?_⟩) he hpl
  exact run_makeE M F hr (hx σ) I1 r q
end
/-- nothing is let out -/
theorem px0 {X : Cx} : ∀ σ, PassesAt CX0 X σ ((fun _ => E0) σ) := fun _ _ _ _ _ _ _ h => h.elim
theorem pxq {X : Cx} : ∀ σ, PassesAt (L2.CX X.prog X.w) X σ ((fun _ => E0) σ) := fun σ pins H s e s' I h => passL pins σ H s e s' I h
theorem pxx {X : Cx} {W : WX} (tk : Takes X W) : ∀ σ, PassesAt (L2.CX X.prog X.w) X σ (WE W σ) := fun σ => passAt tk σ
/-! from a def's body to its promise, wherever it stands -/
section
variable {P : Program} {w : World} {K : PySem.W.Frag} {mg : Str → Option Value} {base : Heap} {CX : CXT} {k : Nat} {x qual : Str} {sp : Sp} {params : Arguments} {body : List Stmt} {scope : Scope} {f : Addr} {fd : FuncData} {ps N : List Str}
theorem fnN (F : FunD K x qual params body scope [] [] f fd)
    (hb : ∀ (kV doc pm : Value) (an : Option Addr) (cdv ct : Value) (us : List Value), us.length = ps.length → bindArgs (PySem.W.fnOf x qual params body scope .none kV doc pm an cdv ct) ⟨us, []⟩ = pure (ps.zip us))
    (S : FnScope N ps scope) (len : ∀ vs H Q E, sp vs H Q E → vs.length = ps.length)
    (hbody : ∀ (cdv : Value) (A : Around) (outer : List Env) (s : Shared) (H : Hp) (vs : List V) (Q : VK) (E : XK), Room k (A.deeper (envOfC qual scope s.heap.objs.size f cdv)) → sp vs H Q E →
      ∃ t, PSs (cxOf CX P w K mg base N qual scope f cdv A outer s H E) body t ∧ t { nx := fun _ H' => Q .non H', rt := Q } (start N vs) H) : FnR P w K mg base CX (k + 1) f sp :=
  ((F.ok S len hbody).raw (F.bindsN hb) .nil).imp fun vs H Q E h => by rw [List.append_nil]; exact h
end
end EL
namespace EX
open PySem PySem.W PySem.Calls PyProof.Rows PySem.HandSPX
/-! ### an own error with a field: super().__init__('..'); self.f = f -/
def xiB (fl : Str) (me : Expr) (p0 p1 p2 p4 p5 q1 q2 q3 q4 : Pos) : List Stmt :=
  [.Expr (.Call (.Attribute (.Call (.Name "super" p0) [] [] p1) "__init__" p2) [me] [] p4) p5, .Assign [.Attribute (.Name "self" q1) fl q2] (.Name fl q3) q4]
/-- the message: a text, or (fs) f'..{fl}' -/
def MsgOk (fl : Str) (me : Expr) : Bool → Prop
  | false => ∃ (msg : Str) (j : Nat) (p : Pos), me = .Constant (.str msg) j p
  | true => ∃ (msg : Str) (j : Nat) (p p1 p2 p3 : Pos), me = .JoinedStr [.Constant (.str msg) j p, .FormattedValue (.Name fl p1) (-1) none p2] p3 ∧ msg.length ≤ 1000
def XvOk (v : Value) : Bool → Prop
  | false => True
  | true => ∃ z t, v = .str z t ∧ z.length ≤ 1000
/-- its head and its scope -/
structure XSc (params : Arguments) (scope : Scope) (fl : Str) : Prop where
  bind : ∀ (name q : Str) (body : List Stmt) (doc pm : Value) (an : Option Addr) (cdv ct : Value) (cc : Addr) (u v : Value), bindArgs (ksFn name q params body scope .none .none doc pm an cdv ct cc) ⟨[u, v], []⟩ = pure [(("self" : Str), u), (fl, v)]
  head : ∃ ar : Arg, (params.posonlyargs ++ params.args).head? = some ar ∧ ar.arg = "self"
  ks : scope.names.lookup ("super" : Str) = some .globalImplicit
  kc : scope.names.lookup ("__class__" : Str) = some .free
  kself : scope.names.lookup ("self" : Str) = some .local
  kf : scope.names.lookup fl = some .local
  kind : scope.kind = .function
  ncell : ∀ x ∈ scope.names, x.2 ≠ .cell
  co : scope.isCoroutine = false
  gen : scope.isGenerator = false
  ne : fl ≠ "self"
  dbg : (fl == ("__debug__" : Str)) = false
/-- what the written part says of the class at C and of its __init__ at fI -/
structure XTxt (K : Frag) (C fI cc cda : Addr) (fl file : Str) (fs : Bool) : Prop where
  cls : ∃ nm q N bs bm sn sub ab col dd k0 k1 k2 k3 k5, K.lookup C = some (excClassObj nm q C N bs bm true sn sub ab col dd k0 k1 k2 k3 k5 "ValueError.__new__") ∧ refsVE bm = true
  sa : findIn K (.ref C) "__setattr__" = some (some (.builtin "object.__setattr__"))
  noN : findIn K (.ref C) fl = some none
  iC : findIn K (.ref C) "__init__" = some (some (.ref fI))
  tC : typeIn K (.ref fI) = some (.type "function")
  ve : subIn K (.ref C) (.type "ValueError") = some true
  self : mroIn K C (.ref C) = some true
  sup : ks_superIn K C C "__init__" = some (some (.builtin "ValueError.__init__"))
  tp : nsIn K cStatics "thirdparty.any" = some none
  cell : ∃ cl cld csl, K.lookup cc = some ⟨cl, cld, .cell (some (.ref C)), csl⟩
  code : ∃ ccl cdd vs ccs tf, K.lookup cda = some ⟨ccl, cdd, .fields vs, ccs⟩ ∧ vs[2]? = some (.str file tf)
  fn : ∃ (oc : Value) (od : Option Addr) (doc pm : Value) (an : Option Addr) (ct : Value) (osl : Array (Option Value)) (q : Str) (params : Arguments) (scope : Scope) (me : Expr) (p0 p1 p2 p4 p5 q1 q2 q3 q4 : Pos),
    K.lookup fI = some ⟨oc, od, .func (ksFn "__init__" q params (xiB fl me p0 p1 p2 p4 p5 q1 q2 q3 q4) scope .none .none doc pm an (.ref cda) ct cc), osl⟩ ∧ codeIn K (.ref cda) q = true ∧ XSc params scope fl ∧ (p2.endLine == p4.line) = true ∧ MsgOk fl me fs
/-- what __init__ leaves of a fresh exception at x -/
structure InitEnd (h h' : Heap) (x C dx t1 : Addr) (fl : Str) (v : Value) : Prop where
  keep : ∀ b o, b ≠ x → h.get? b = some o → h'.get? b = some o
  obj : h'.get? x = some { cls := .ref C, dict := some dx, data := .fields #[.ref t1, .none, .none, .none, .bool false, .none] }
  dbig : h.objs.size ≤ dx
  dne : dx ≠ x
  ns : h'.Ns1 dx (fun y => if y = fl then some v else none)
structure OwnMade (h h' : Heap) (e C d : Addr) (fl : Str) (v : Value) : Prop where
  keep : ∀ b o, h.get? b = some o → h'.get? b = some o
  new : h.objs.size ≤ e
  obj : ∃ oe vs, h'.get? e = some oe ∧ oe.cls = .ref C ∧ oe.dict = some d ∧ oe.data = .fields vs ∧ vs[1]? = some .none
  dbig : h.objs.size ≤ d
  dne : d ≠ e
  ns : h'.Ns1 d (fun y => if y = fl then some v else none)
theorem meth_eq {o e : Expr} {name : Str} {p2 p4 : Pos} {env : Env} (hl : (p2.endLine == p4.line) = true) : eval (.Call (.Attribute o name p2) [e] [] p4) env = (do
      let ov ← attributeBase o name env (eval o env)
      standAt p2.atName
      let (f, first) ← holding [ov] (calleeOf (methodCallForm 1 (backTo p4 (starEach [e] env)) []) o env ov name)
      callWith p4 f first (backTo p4 (starEach [e] env)) []) := by
  show (attributeBase o name env (eval o env) >>= fun ov => standAt p2.atName >>= fun _ => methodCall o name p2 p4 env ov 1 (backTo p4 (starEach [e] env)) []) = _
  have x : ∀ ov, methodCall o name p2 p4 env ov 1 (backTo p4 (starEach [e] env)) [] = (holding [ov] (calleeOf (methodCallForm 1 (backTo p4 (starEach [e] env)) []) o env ov name) >>= fun z => callWith p4 z.1 z.2 (backTo p4 (starEach [e] env)) []) := fun ov => by
    unfold methodCall methodCallPos
    simp only [hl, Bool.or_true, if_true, pure_bind]
  simp only [x]
theorem meth_msg {o me : Expr} {name fl : Str} {fs : Bool} {p2 p4 : Pos} {env : Env} (hm : MsgOk fl me fs) (hl : (p2.endLine == p4.line) = true) : starEach [me] env = [(false, eval me env)] ∧ eval (.Call (.Attribute o name p2) [me] [] p4) env = (do
      let ov ← attributeBase o name env (eval o env)
      standAt p2.atName
      let (f, first) ← holding [ov] (getMethod ov name (do return (← importBound o env).getD true))
      callWith p4 f first (backTo p4 (starEach [me] env)) []) := by
  cases fs with
  | false =>
    obtain ⟨msg, j, p, rfl⟩ := hm
    exact ⟨rfl, meth_eq hl⟩
  | true =>
    obtain ⟨msg, j, p, p1, pp, p3, rfl, _⟩ := hm
    exact ⟨rfl, meth_eq hl⟩
section
variable {prog : Program} {w : World} {A : Around} {E : Value → Shared → Prop} {R : Result → Shared → Prop} {s : Shared} {K : Frag} {C fI cc cda : Addr} {fl file : Str} {mg mb : Str → Option Value}
/-- the wrapper of ValueError.__init__ called -/
theorem call_mw {h : Heap} {g : Array GenState} {d : Drawn} {t : Nat} {os : OsState} {u e t0 : Addr} {rest : List Value} {Q : Value → Shared → Prop}
    (hC : ∃ nm q N bs bm sn sub ab col dd k0 k1 k2 k3 k5, h.get? C = some (excClassObj nm q C N bs bm true sn sub ab col dd k0 k1 k2 k3 k5 "ValueError.__new__")) (he : h.get? e = some (excO C t0)) (hu : h.get? u = some (kxs_mw "ValueError.__init__" e)) (hrest : rest.length ≤ sizeLine)
    (hq : ∀ h' t1, (∀ b o, b ≠ e → h.get? b = some o → h'.get? b = some o) → h'.get? e = some (excO C t1) → Q .none ⟨h', g, d, t, os⟩) :
    wpAny (model prog w) A (call (.ref u) rest) Q E ⟨h, g, d, t, os⟩ := by
  obtain ⟨nm, q, N, bs, bm, sn, sub, ab, col, dd, k0, k1, k2, k3, k5, hC⟩ := hC
  refine wpAny_call (codeAny_of_tree ?_)
  show wpAny _ A.in1 (callAny (.ref u) ⟨rest, []⟩) _ _ _
  simp only [callAny]
  refine wpAny_bind (wpAny_load hu ?_)
  simp only [kxs_mw, show (Value.type "method-wrapper" == Value.type "method" || Value.type "method-wrapper" == Value.type "builtin_function_or_method" || Value.type "method-wrapper" == Value.type "method-wrapper") = true by decide, if_true]
  refine KFB.if_so (by decide) ?_
  refine wpAny_bind (check_bound_init F.excBase_ValueError.toExcCallFacts hC he rfl ?_)
  refine wpAny_bind (wpAny_pure (wpAny_pure ?_))
  refine ⟨plainId_quiet F.excBase_ValueError.init.plain _, codeAny_builtin F.excBase_ValueError.initEntry ?_⟩
  exact exc_init_tree (cls := .ref C) (t0 := t0) (dv := none) (c2 := .none) (c3 := .none) (b4 := .bool false) he hrest fun h' k e' _ => hq h' _ k e'
theorem msg_run {h : Heap} {g : Array GenState} {d : Drawn} {t : Nat} {os : OsState} {env : Env} {fs : Bool} {me : Expr} {v : Value} {m : Str → Option Value} {Q : Value → Shared → Prop} (hm : MsgOk fl me fs) (hv : XvOk v fs) (hk : env.scope.kind = .function) (hf : env.scope.names.lookup fl = some .local)
    (hdb : (fl == ("__debug__" : Str)) = false) (hn : h.Ns env.locals m) (hmv : m fl = some v) (hq : ∀ z tz t', Q (.str z tz) ⟨h, g, d, t', os⟩) : wpAny (model prog w) A (eval me env) Q E ⟨h, g, d, t, os⟩ := by
  cases fs with
  | false =>
    obtain ⟨msg, j, p, rfl⟩ := hm
    exact wpAny_Constant_str (hq _ _ _)
  | true =>
    obtain ⟨msg, j, p, p1, p2, p3, rfl, hl⟩ := hm
    obtain ⟨z, tz, rfl, hz⟩ := hv
    refine wpAny_JoinedStr ?_
    have e0 : evalEach [.Constant (.str msg) j p, .FormattedValue (.Name fl p1) (-1) none p2] env = [eval (.Constant (.str msg) j p) env, eval (.FormattedValue (.Name fl p1) (-1) none p2) env] := by first | rfl | simp [evalEach]
    rw [e0]
    have l1 : (Str.empty ++ msg).length ≤ 1000 := by rw [EL.str_nil]; exact hl
    have l2 : ((Str.empty ++ msg) ++ z).length ≤ sizeLine := by
      rw [EL.str_nil, TL.len_tl, TL.tl_append, List.length_append, ← TL.len_tl, ← TL.len_tl]
      exact Nat.le_trans (Nat.add_le_add hl hz) (by decide)
    refine wpAny_Constant_str ⟨msg, _, rfl, Nat.le_trans l1 (by decide), ?_⟩
    refine wpAny_FormattedValue_plain ?_
    refine wpAny_Name (wpAny_loadName_local hk hf hn hmv ?_) hdb
    exact wpAny_formatField_str ⟨z, _, rfl, l2, l2, hq _ _ _⟩ ⟨z, _, rfl, l2, l2, hq _ _ _⟩ (Nat.le_trans hz (by decide))
theorem kept_but {h h' : Heap} {x : Addr} (X : K.In h) (hx : K.lookup x = none) (k : ∀ b o, b ≠ x → h.get? b = some o → h'.get? b = some o) : K.In h' := fun a o e =>
  k a o (fun z => by rw [z, hx] at e; cases e) (X a o e)
theorem xf_init {fs : Bool} (T : XTxt K C fI cc cda fl file fs) {x t0 : Addr} {v : Value} (hv : XvOk v fs) (X : K.In s.heap) (hlim : s.heap.NoLimit) (hx : s.heap.get? x = some (excO C t0)) (hnx : K.lookup x = none) (hroom : A.depth < recursionLimit)
    (G : s.heap.Ns mainGlobals mg) (hsu : mg "super" = none) (Bn : s.heap.Ns builtinsNs mb) (hb : mb "super" = some (.type "super")) (hfile : ((prog.main.file : Str) == file) = true) (htop : (prog.main.scope.names.lookup ("super" : Str)).isSome = false)
    (hq : ∀ h' tk dx t1, InitEnd s.heap h' x C dx t1 fl v → R (.ok (.ret .none)) { s with heap := h', toks := tk }) :
    codeAny (model prog w) A (.call (.ref fI) ⟨[.ref x, v], []⟩) R s := by
  obtain ⟨oc, od, doc, pm, an, ct, osl, q, params, scope, me, p0, p1, p2, p4, p5, q1, q2, q3, q4, ho, hcd, S, hl, hm⟩ := T.fn
  obtain ⟨nm, cq, N, bs, bm, sn, sub, ab, col, dd, k0, k1, k2, k3, k5, hC, hbm⟩ := T.cls
  obtain ⟨cl, cld, csl, hcell⟩ := T.cell
  obtain ⟨ccl, cdd, vs, ccs, tf, hcode, hvs⟩ := T.code
  obtain ⟨ar, har, hara⟩ := S.head
  have hcl : clsIn K C = some { name := nm, bases := bs, mro := .ref C :: bm, ns := N, qualname := cq, hasDict := true, slotNames := sn, subclasses := sub, abstract := ab, collection := col, hasDel := false } := by unfold clsIn; rw [hC] <;> rfl
  refine ks_codeAny_call_defAt (fd := ksFn "__init__" q params (xiB fl me p0 p1 p2 p4 p5 q1 q2 q3 q4) scope .none .none doc pm an (.ref cda) ct cc) (binds := [(("self" : Str), .ref x), (fl, v)]) hroom (X _ _ ho) rfl hlim (codeRec_of X hcd) rfl (BindsTo.of_eq (S.bind ..)) S.ncell ?_ (fun h₁ hn k => ?_) S.co S.gen S.kind
  · intro y hy
    rcases List.mem_cons.mp hy with rfl | hy
    · exact S.kself
    · rcases List.mem_cons.mp hy with rfl | hy
      · exact S.kf
      · cases hy
  have vself : ([(("self" : Str), Value.ref x), (fl, v)] : List (Str × Value)).reverse.lookup ("self" : Str) = some (.ref x) := by
    show List.lookup ("self" : Str) [(fl, v), (("self" : Str), Value.ref x)] = _
    have e : (("self" : Str) == fl) = false := by simpa using Ne.symm S.ne
    simp [List.lookup, e]
  have vfl : ([(("self" : Str), Value.ref x), (fl, v)] : List (Str × Value)).reverse.lookup fl = some v := by
    show List.lookup fl [(fl, v), (("self" : Str), Value.ref x)] = _
    simp [List.lookup]
  obtain ⟨hh, g, d, t, os⟩ := s
  dsimp only at hn k X hlim hx G Bn
  have X₁ : K.In h₁ := X.keeps k
  have hx₁ := k _ _ hx
  show _root_.PySem.wpAt _ _ (.func _ (ksEnv q scope hh.objs.size fI (.ref cda) cc)) (execs (xiB fl me p0 p1 p2 p4 p5 q1 q2 q3 q4) (ksEnv q scope hh.objs.size fI (.ref cda) cc)) _ _ _
  refine ks_wpAt_execs_cons (ks_wpAt_Expr_any (ks_wpAt_MethodCall ?_ (meth_msg hm hl).2) (by unfold interactive; simp [S.kind]))
  refine ks_wpAt_super_base (env := ksEnv q scope hh.objs.size fI (.ref cda) cc) S.ks S.kc (by decide) rfl (X₁ _ _ ho) rfl har rfl (X₁ _ _ hcode) rfl hvs hfile htop ?_
  refine ks_loadName_global S.kind S.ks (loadGlobal_builtin (env := ksEnv q scope hh.objs.size fI (.ref cda) cc) (G.keeps k) hsu (Bn.keeps k) hb ⟨rfl, ?_⟩)
  refine wpAny_loadName_free S.kind S.kc rfl ⟨_, X₁ _ _ hcell, rfl⟩ ?_
  rw [hara]
  refine wpAny_loadName_local S.kind S.kself hn vself ?_
  refine ks_wpAny_isType_cls (X₁ _ _ hC) rfl ⟨rfl, ?_⟩
  refine ks_wpAny_call_super (X₁ _ _ hC) rfl hx₁ rfl (fun c e => by cases e) (looks_mroIn X₁ T.self) (fun h₂ e₂ k₂ => ?_)
  have X₂ : K.In h₂ := X₁.keeps k₂
  have hx₂ := k₂ _ _ hx₁
  have I₂ : InstAt h₂ x (excO C t0) C none := ⟨hx₂, rfl, rfl, trivial⟩
  have hI : Looks (model prog w) h₂ (isInstance (.ref x) (.type "ValueError")) true := I₂.type.andThen (looks_subIn X₂ T.ve)
  have hsp := T.sup
  unfold ks_superIn at hsp
  rw [hcl] at hsp
  refine kxs_getMethod kxs_ValueError e₂ (looks_opaque X₂ T.tp) (l₀ := .ref C :: bm) (fun A Q E s k q => wpAny_bind ((looks_clsIn X₂ hcl) A _ E s k (wpAny_pure q))) rfl X₂ hsp hI (ks_ne X₂ I₂ hcl) (by decide) ?_
  have hu₃ : (h₂.push (kxs_mw "ValueError.__init__" x)).get? h₂.objs.size = some (kxs_mw "ValueError.__init__" x) := Heap.get?_push_at rfl rfl
  have k₃ : ∀ b o, h₂.get? b = some o → (h₂.push (kxs_mw "ValueError.__init__" x)).get? b = some o := fun b o e => Heap.get?_push_of_some _ e
  have k₃n : h₁.Ns hh.objs.size (fun x_1 => ([(("self" : Str), Value.ref x), (fl, v)] : List (Str × Value)).reverse.lookup x_1) → (h₂.push (kxs_mw "ValueError.__init__" x)).Ns hh.objs.size (fun x_1 => ([(("self" : Str), Value.ref x), (fl, v)] : List (Str × Value)).reverse.lookup x_1) := fun q => q.keeps fun b o e => k₃ _ _ (k₂ _ _ e)
  dsimp only
  rw [(meth_msg (o := .Name "self" p0) (name := "x") (env := ksEnv q scope hh.objs.size fI (.ref cda) cc) hm hl).1]
  refine kxs_callWith (i := "ValueError.__init__") (x := x) rfl ?_
  refine evalArgs_plain (spliced_cons (msg_run hm hv S.kind S.kf S.dbg (k₃n hn) vfl fun z tz t' => spliced_nil ⟨hu₃, ?_⟩))
  have hxL : hh.objs.size ≠ x := Nat.ne_of_gt (Heap.lt_size hx)
  refine call_mw (C := C) (e := x) (t0 := t0) ⟨nm, cq, N, bs, bm, sn, sub, ab, col, dd, k0, k1, k2, k3, k5, k₃ _ _ (X₂ _ _ hC)⟩ (k₃ _ _ hx₂) hu₃ (by show 1 ≤ sizeLine; decide) fun h₄ t1 k₄ hx₄ => ?_
  have X₄ : K.In h₄ := kept_but (X₂.keeps k₃) hnx k₄
  have k04 : ∀ b o, b ≠ x → hh.get? b = some o → h₄.get? b = some o := fun b o hbx e => k₄ b o hbx (k₃ b o (k₂ b o (k b o e)))
  obtain ⟨oL, es, ep, hL, rr⟩ := hn
  have hn₄ : h₄.Ns hh.objs.size (fun x_1 => ([(("self" : Str), Value.ref x), (fl, v)] : List (Str × Value)).reverse.lookup x_1) := ⟨oL, es, ep, k₄ _ _ hxL (k₃ _ _ (k₂ _ _ hL)), rr⟩
  have z1 : hh.objs.size < h₄.objs.size := hn₄.lt
  refine ks_wpAt_execs_cons (wpAt_of_wpAny (plainObj_wpAny_Assign_Attribute ?_))
  refine wpAny_Name (wpAny_loadName_local S.kind S.kf hn₄ vfl ?_) S.dbg
  refine wpAny_Name (wpAny_loadName_local S.kind S.kself hn₄ vself ?_) (by decide)
  refine set_plain X₄ (ox := excO C t1) (od := none) ⟨hx₄, rfl, rfl, trivial⟩ T.sa ?_
  refine exc_osa X₄ hx₄ hcl (show refsVE (.ref C :: bm) = true from hbm) rfl T.noN (fun h₅ tk₅ dx k₅ dn dne hx₅ hn₅ => ?_)
  refine wpAt_of_wpAny (wpAny_execs_nil ?_)
  exact hq h₅ tk₅ dx t1 ⟨fun b o hbx e => k₅ b o hbx (k04 b o hbx e), hx₅, Nat.le_of_lt (Nat.lt_of_lt_of_le z1 dn), dne, hn₅⟩
theorem xf_made {fs : Bool} (T : XTxt K C fI cc cda fl file fs) {v : Value} (hv : XvOk v fs) (X : K.In s.heap) (hlim : s.heap.NoLimit) (hroom : A.depth + 1 < recursionLimit)
    (G : s.heap.Ns mainGlobals mg) (hsu : mg "super" = none) (Bn : s.heap.Ns builtinsNs mb) (hb : mb "super" = some (.type "super")) (hfile : ((prog.main.file : Str) == file) = true) (htop : (prog.main.scope.names.lookup ("super" : Str)).isSome = false)
    (hq : ∀ h' tk e d, OwnMade s.heap h' e C d fl v → R (.ok (.ret (.ref e))) { s with heap := h', toks := tk }) :
    codeAny (model prog w) A (.call (.ref C) ⟨[v], []⟩) R s := by
  obtain ⟨nm, q, N, bs, bm, sn, sub, ab, col, dd, k0, k1, k2, k3, k5, hC, hbm⟩ := T.cls
  obtain ⟨hp, g, dr, tk, os⟩ := s
  have k : ∀ b o, hp.get? b = some o → ((hp.push (kdv_tup [v])).push (excO C hp.objs.size)).get? b = some o := fun b o e => Heap.get?_push_of_some _ (Heap.get?_push_of_some _ e)
  have hget : ((hp.push (kdv_tup [v])).push (excO C hp.objs.size)).get? (hp.objs.size + 1) = some (excO C hp.objs.size) := by heap_get
  have hnx : K.lookup (hp.objs.size + 1) = none := by
    cases e : K.lookup (hp.objs.size + 1) with
    | none => rfl
    | some o =>
      have z : hp.get? (hp.objs.size + 1) = some o := X _ _ e
      exact absurd (Nat.lt_of_succ_lt (Heap.lt_size z)) (Nat.lt_irrefl _)
  refine call_own F.excBase_ValueError (fun X => refsVE_contains X bm hbm) (X _ _ hC) (looks_findIn X T.iC) (fun self => bind_fn X self T.tC) (by show 1 ≤ sizeLine; decide) ?_
  refine xf_init (s := ⟨(hp.push (kdv_tup [v])).push (excO C hp.objs.size), g, dr, tk, os⟩) T hv (X.keeps k) (hlim.keeps k) hget hnx ?_ (G.keeps k) hsu (Bn.keeps k) hb hfile htop fun h' tk' dx t1 ⟨k', hx, dn, dne, hns⟩ => ?_
  · show A.depth + 1 < recursionLimit
    exact hroom
  · have old : ∀ b o, hp.get? b = some o → h'.get? b = some o := fun b o e => k' b o (Nat.ne_of_lt (Nat.lt_succ_of_lt (Heap.lt_size e))) (k b o e)
    have z : hp.objs.size + 1 + 1 ≤ dx := by
      first
        | (simpa only [Heap.size_push] using dn)
        | exact dn
        | (have q := dn; rw [Heap.size_push, Heap.size_push] at q; exact q)
    exact ⟨rfl, hq h' tk' (hp.objs.size + 1) dx ⟨old, Nat.le_succ _, ⟨_, _, hx, rfl, rfl, rfl, rfl⟩, Nat.le_trans (Nat.le_trans (Nat.le_succ _) (Nat.le_succ _)) z, dne, hns⟩⟩
end
end EX
namespace EL
open PySem PySem.Spec PyProof.Rows L2 He TL
/-- the program's file, no own super -/
structure PF (P : Program) (file : Str) : Prop where
  file : ((P.main.file : Str) == file) = true
  top : (P.main.scope.names.lookup ("super" : Str)).isSome = false
/-- an own error with the field fl -/
structure XT0 (K : PySem.W.Frag) (mg : Str → Option Value) (x fl file : Str) (fs : Bool) : Prop where
  t : ∃ cc cda, EX.XTxt K (ga K x) (ma K (ga K x) "__init__") cc cda fl file fs
  g : mg x = some (.ref (ga K x))
  su : mg "super" = none
  kp : PySem.W.keepIn K (.ref (ga K x)) = true
  ex : PySem.W.subIn K (.ref (ga K x)) (.type "BaseException") = some true
  ty : PySem.W.typeIn K (.ref (ga K x)) = some (.type "type")
abbrev XT (K : PySem.W.Frag) (mg : Str → Option Value) (x fl file : Str) : Prop := XT0 K mg x fl file false
abbrev XTf (K : PySem.W.Frag) (mg : Str → Option Value) (x fl file : Str) : Prop := XT0 K mg x fl file true
theorem relO_one {fl : Str} {v : V} {v' : Value} (r : RelV v v') (f : Str) : RelO (List.lookup f [(fl, v)]) (if f = fl then some v' else none) := by
  by_cases hw : f = fl
  · subst hw
    rw [if_pos rfl]
    have q : List.lookup f [(f, v)] = some v := by simp [List.lookup]
    rw [q]
    exact r
  · rw [if_neg hw]
    have qw : (f == fl) = false := by simpa using hw
    have q2 : List.lookup f [(fl, v)] = none := by simp [List.lookup, qw]
    rw [q2]
    trivial
section
variable {X : Cx} {x fl file : Str}
def tMkX (C : Addr) (fl : Str) (ta : TA) : L2.St → Hp → XK → Prop := fun σ H Q => ta σ H fun vs H1 => ∃ v, vs = [v] ∧ ∀ d, H1 d = none → Q (.ref C) (some d) (upd H1 d (.xd [(fl, v)]))
/-- the same, the field a text (that the message shows) -/
def tMkF (C : Addr) (fl : Str) (ta : TA) : L2.St → Hp → XK → Prop := fun σ H Q => ta σ H fun vs H1 => ∃ z : Str, vs = [.str z] ∧ z.length ≤ 1000 ∧ ∀ d, H1 d = none → Q (.ref C) (some d) (upd H1 d (.xd [(fl, .str z)]))
def xvOk (v : V) : Bool → Prop
  | false => True
  | true => ∃ z : Str, v = .str z ∧ z.length ≤ 1000
theorem xvOk.to {v : V} {u : Value} {fs : Bool} (h : xvOk v fs) (r : RelV v u) : EX.XvOk u fs := by
  cases fs with
  | false => trivial
  | true =>
    obtain ⟨z, rfl, hz⟩ := h
    obtain ⟨t, rfl⟩ := r
    exact ⟨z, t, rfl, hz⟩
theorem pmk_xf0 {fs : Bool} {a : Expr} {ta : TA} {p pos : Pos} {k : Nat} {R : List V → Hp → XK → Prop} (hR : ∀ vs H1 Q, R vs H1 Q → ∃ v, vs = [v] ∧ xvOk v fs ∧ ∀ d, H1 d = none → Q (.ref (ga X.K x)) (some d) (upd H1 d (.xd [(fl, v)]))) (hP : PF X.prog file) (T : XT0 X.K X.mg x fl file fs) (hr : Room k X.A) (ha : PA X [a] ta) (hg : Gl X x := by rfl) (hdb : (x == ("__debug__" : Str)) = false := by decide)
    (he : starEach (a :: []) X.env = (false, eval a X.env) :: starEach [] X.env := by rfl) (hpl : (backTo pos (starEach [] X.env)).any (·.1) = false := by rfl) :
    PMk X (.Call (.Name x p) [a] [] pos) (fun σ H Q => ta σ H fun vs H1 => R vs H1 Q) := by
  intro pins s σ H Q I h
  refine wpAny_Call_Name_kw (ld_glob I hg T.g ?_ hdb)
  refine PySem.W.callWith_K (h₀ := X.base) I.ok.mod.kin T.kp (thn (ha.run pos pins s σ H _ I h) fun us s1 hh => ?_) he hpl
  obtain ⟨vs, H1, I1, r1, q0⟩ := hh
  obtain ⟨v, ev, xo, q1⟩ := hR _ _ _ q0
  subst ev
  refine ⟨I1.kIn, ?_⟩
  cases r1 with
  | cons rv rn =>
    rename_i v' us'
    cases rn
    show wpAny _ _ (call (.ref (ga X.K x)) [v']) _ _ _
    have hlim := I1.nolimit
    obtain ⟨cc, cda, TT⟩ := T.t
    obtain ⟨mb, hmb, hmb2⟩ := I1.mod.blt
    have G1 : s1.heap.Ns mainGlobals X.mg := I1.mod.glob.keeps I1.bk
    have B1 : s1.heap.Ns builtinsNs mb := hmb.keeps I1.bk
    have hsu : mb "super" = some (.type "super") := (hmb2 _ (by decide +kernel)).trans (by decide +kernel)
    obtain ⟨hp, g, dr, tk, os⟩ := s1
    refine wpAny_call (EX.xf_made TT (xo.to rv) I1.kIn hlim (by have := hr.dp; omega) G1 T.su B1 hsu hP.file hP.top fun h' tk' e d M => ?_)
    show MkP X pins σ Q (.ref e) ⟨h', g, dr, tk', os⟩
    obtain ⟨oe, fv, hoe, hc, hd, hdat, h1⟩ := M.obj
    have hns := M.ns
    obtain ⟨G', g1, g2⟩ := restrict h' fun b => decide (b ≠ e)
    have gk : ∀ b, b ≠ e → G'.get? b = h'.get? b := fun b hb => g1 b (decide_eq_true hb)
    have ge : G'.get? e = none := g2 e (by simp)
    have old : ∀ b o, hp.get? b = some o → G'.get? b = some o := fun b o q => (gk b (Nat.ne_of_lt (Nat.lt_of_lt_of_le (Heap.lt_size q) M.new))).trans (M.keep b o q)
    have ob : ObjOk X.prog X.w (upd H1 d (.xd [(fl, v)])) G' d (.xd [(fl, v)]) :=
      ⟨_, hns.at (fun o q => (gk d M.dne).trans q), fun f => relO_one rv f⟩
    have J : Inv X pins σ (upd H1 d (.xd [(fl, v)])) ⟨G', g, dr, tk', os⟩ := I1.laid (t' := tk') old M.dbig ob
    refine ⟨e, oe, fv, ⟨G', g, dr, tk', os⟩, _, .ref (ga X.K x), some d, rfl, J, fun b o q => ?_, ge, hoe, ⟨hc, hd⟩, hdat, h1, ?_, rfl, I1.bare, raises_own T.ex T.ty, q1 d (I1.hok.fresh M.dbig)⟩
    · by_cases hb : b = e
      · have q' : G'.get? b = some o := q
        rw [hb, ge] at q'; cases q'
      · exact (gk b hb).symm.trans q
    · rw [upd_ne (Ne.symm M.dne)]
      exact I1.hok.fresh M.new
theorem pmk_xf {a : Expr} {ta : TA} {p pos : Pos} {k : Nat} (hP : PF X.prog file) (T : XT X.K X.mg x fl file) (hr : Room k X.A) (ha : PA X [a] ta) (hg : Gl X x := by rfl) (hdb : (x == ("__debug__" : Str)) = false := by decide)
    (he : starEach (a :: []) X.env = (false, eval a X.env) :: starEach [] X.env := by rfl) (hpl : (backTo pos (starEach [] X.env)).any (·.1) = false := by rfl) :
    PMk X (.Call (.Name x p) [a] [] pos) (tMkX (ga X.K x) fl ta) :=
  pmk_xf0 (fs := false) (R := fun vs H1 Q => ∃ v, vs = [v] ∧ ∀ d, H1 d = none → Q (.ref (ga X.K x)) (some d) (upd H1 d (.xd [(fl, v)]))) (fun vs H1 Q ⟨v, e, q⟩ => ⟨v, e, trivial, q⟩) hP T hr ha hg hdb he hpl
theorem pmk_xff {a : Expr} {ta : TA} {p pos : Pos} {k : Nat} (hP : PF X.prog file) (T : XTf X.K X.mg x fl file) (hr : Room k X.A) (ha : PA X [a] ta) (hg : Gl X x := by rfl) (hdb : (x == ("__debug__" : Str)) = false := by decide)
    (he : starEach (a :: []) X.env = (false, eval a X.env) :: starEach [] X.env := by rfl) (hpl : (backTo pos (starEach [] X.env)).any (·.1) = false := by rfl) :
    PMk X (.Call (.Name x p) [a] [] pos) (tMkF (ga X.K x) fl ta) :=
  pmk_xf0 (fs := true) (R := fun vs H1 Q => ∃ z : Str, vs = [.str z] ∧ z.length ≤ 1000 ∧ ∀ d, H1 d = none → Q (.ref (ga X.K x)) (some d) (upd H1 d (.xd [(fl, .str z)]))) (fun vs H1 Q ⟨z, e, hz, q⟩ => ⟨_, e, ⟨z, rfl, hz⟩, q⟩) hP T hr ha hg hdb he hpl
/-- raise C(e), C an own error whose message shows its field -/
theorem rsxf {a : Expr} {ta : TA} {W : WX} {p pos pos2 : Pos} {k : Nat} (hc : X.calm = true) (tk : Takes X W) (hP : PF X.prog file) (T : XTf X.K X.mg x fl file) (hr : Room k X.A) (ha : PA X [a] ta) (hg : Gl X x := by rfl) (hdb : (x == ("__debug__" : Str)) = false := by decide)
    (he : starEach (a :: []) X.env = (false, eval a X.env) :: starEach [] X.env := by rfl) (hpl : (backTo pos (starEach [] X.env)).any (·.1) = false := by rfl) :
    PS X (.Raise (some (.Call (.Name x p) [a] [] pos)) none pos2) (fun _ σ H => tMkF (ga X.K x) fl ta σ H fun cls d H' => W cls d σ H') := ps_raise hc tk (pmk_xff hP T hr ha hg hdb he hpl)
/-- raise C(e), C an own error with a field -/
theorem rsx {a : Expr} {ta : TA} {W : WX} {p pos pos2 : Pos} {k : Nat} (hc : X.calm = true) (tk : Takes X W) (hP : PF X.prog file) (T : XT X.K X.mg x fl file) (hr : Room k X.A) (ha : PA X [a] ta) (hg : Gl X x := by rfl) (hdb : (x == ("__debug__" : Str)) = false := by decide)
    (he : starEach (a :: []) X.env = (false, eval a X.env) :: starEach [] X.env := by rfl) (hpl : (backTo pos (starEach [] X.env)).any (·.1) = false := by rfl) :
    PS X (.Raise (some (.Call (.Name x p) [a] [] pos)) none pos2) (fun _ σ H => tMkX (ga X.K x) fl ta σ H fun cls d H' => W cls d σ H') := ps_raise hc tk (pmk_xf hP T hr ha hg hdb he hpl)
end
end EL
namespace EL
open PySem PySem.W PySem.Spec PyProof.Rows He
/-! ### the facts of such an error, from the head -/
def xclB (K : Frag) (C : Addr) : Bool := match K.lookup C with
  | some ⟨.type "type", _, .cls cd, sl⟩ => (match cd.mro, sl.toList with
    | .ref C' :: bm, [_, _, _, _, some (.builtin n), _] => C' == C && n == "ValueError.__new__" && !cd.hasDel && cd.hasDict && HandSPX.refsVE bm
    | _, _ => false)
  | _ => false
theorem xclB_ok {K : Frag} {C : Addr} (q : xclB K C = true) : ∃ nm q N bs bm sn sub ab col dd k0 k1 k2 k3 k5, K.lookup C = some (excClassObj nm q C N bs bm true sn sub ab col dd k0 k1 k2 k3 k5 "ValueError.__new__") ∧ HandSPX.refsVE bm = true := by
  unfold xclB at q
  split at q
  · rename_i dd cd sl ho
    split at q
    · rename_i C' bm k0 k1 k2 k3 n k5 hm hs
      simp only [Bool.and_eq_true, beq_iff_eq, Bool.not_eq_true'] at q
      obtain ⟨⟨⟨⟨rfl, rfl⟩, hdel⟩, hdi⟩, ht⟩ := q
      obtain ⟨nm, bs, mro, ns, qn, hd, sn, sub, ab, col, del⟩ := cd
      dsimp only at hm hdel hdi
      subst hm hdel hdi
      have hsl : sl = #[k0, k1, k2, k3, some (.builtin "ValueError.__new__"), k5] := by
        obtain ⟨l⟩ := sl
        simp only at hs
        rw [hs]
      subst hsl
      exact ⟨nm, qn, ns, bs, bm, sn, sub, ab, col, dd, k0, k1, k2, k3, k5, ho, ht⟩
    · cases q
  · cases q
/-- closure, code, defaults of its __init__ -/
def xfnB (K : Frag) (C f : Addr) (q file : Str) : Bool := match K.lookup f with
  | some ⟨_, _, .func fd, _⟩ => (match fd.closure, fd.code, fd.defaults, fd.kwdefaults with
    | [(_, cc)], .ref cda, .none, .none => (match K.lookup cc with
      | some ⟨_, _, .cell (some (.ref D)), _⟩ => decide (D = C)
      | _ => false) && ((match K.lookup cda with
      | some ⟨_, _, .fields vs, _⟩ => (match (vs[2]? : Option Value) with
        | some (Value.str fi _) => decide (fi = file)
        | _ => false)
      | _ => false) && codeIn K (.ref cda) q)
    | _, _, _, _ => false)
  | _ => false
def xtB (K : Frag) (x fl file : Str) : Bool := xclB K (ga K x) && (eqO (findIn K (.ref (ga K x)) "__setattr__") (some (some (.builtin "object.__setattr__"))) && (eqO (findIn K (.ref (ga K x)) fl) (some none) &&
  (eqO (findIn K (.ref (ga K x)) "__init__") (some (some (.ref (ma K (ga K x) "__init__")))) && (decide (typeIn K (.ref (ma K (ga K x) "__init__")) = some (.type "function")) && (decide (subIn K (.ref (ga K x)) (.type "ValueError") = some true) &&
  (decide (mroIn K (ga K x) (.ref (ga K x)) = some true) && (eqO (ks_superIn K (ga K x) (ga K x) "__init__") (some (some (.builtin "ValueError.__init__"))) && (eqO (nsIn K cStatics "thirdparty.any") (some none) &&
  (keepIn K (.ref (ga K x)) && (decide (subIn K (.ref (ga K x)) (.type "BaseException") = some true) && (decide (typeIn K (.ref (ga K x)) = some (.type "type")) && (L2.xfB K (ga K x) && xfnB K (ga K x) (ma K (ga K x) "__init__") (x ++ ".__init__") file))))))))))))
/-- what of a def with a closure is looked at (the cells' places not) -/
def fnWX (K : Frag) (a : Addr) : FnW := match K.lookup a with
  | some ⟨_, _, .func fd, _⟩ => some (fd.name, fd.qualname, fd.params, fd.body, fd.scope, fd.globals, fd.closure.map fun z => (z.1, 0), fd.builtins)
  | _ => none
structure DefX where
  cls : Str
  fl : Str
  st : Stmt
  fs : Bool
def DefX.val (d : DefX) : FnW := some ("__init__", d.cls ++ ".__init__", L2.defArgs d.st, .stmts (L2.defBody d.st), L2.defScope d.st, mainGlobals, [("__class__", 0)], builtinsNs)
def DefX.ad (K : Frag) (d : DefX) : Addr := ma K (ga K d.cls) "__init__"
/-- its text, as it was written -/
structure XW (d : DefX) : Prop where
  sc : EX.XSc (L2.defArgs d.st) (L2.defScope d.st) d.fl
  body : ∃ (me : Expr) (p0 p1 p2 p4 p5 q1 q2 q3 q4 : Pos), L2.defBody d.st = EX.xiB d.fl me p0 p1 p2 p4 p5 q1 q2 q3 q4 ∧ (p2.endLine == p4.line) = true ∧ EX.MsgOk d.fl me d.fs
theorem xt_of {K : Frag} {mg : Str → Option Value} {file : Str} {d : DefX} (W : XW d) (e : fnWX K (d.ad K) = d.val) (g : mg d.cls = some (.ref (ga K d.cls))) (su : mg "super" = none) (h : xtB K d.cls d.fl file = true) : XT0 K mg d.cls d.fl file d.fs ∧ L2.XfC K (ga K d.cls) ∧ findIn K (.ref (ga K d.cls)) d.fl = some none := by
  obtain ⟨h1, h⟩ := ba h
  obtain ⟨h2, h⟩ := ba h
  obtain ⟨h3, h⟩ := ba h
  obtain ⟨h4, h⟩ := ba h
  obtain ⟨h5, h⟩ := ba h
  obtain ⟨h6, h⟩ := ba h
  obtain ⟨h7, h⟩ := ba h
  obtain ⟨h8, h⟩ := ba h
  obtain ⟨h9, h⟩ := ba h
  obtain ⟨h10, h⟩ := ba h
  obtain ⟨h11, h⟩ := ba h
  obtain ⟨h12, h⟩ := ba h
  obtain ⟨h13, h14⟩ := ba h
  refine ⟨⟨?_, g, su, h10, of_decide_eq_true h11, of_decide_eq_true h12⟩, L2.xfB_ok h13, eqO_ok h3⟩
  unfold xfnB at h14
  unfold fnWX at e
  unfold DefX.ad at e
  split at h14
  · rename_i oc od fd osl lk
    rw [lk] at e
    obtain ⟨n1, n2, n3, n4, n5, n6, n7, n8, n9, n10, n11, n12, n13, n14, n15⟩ := fd
    have e2 : (some (n1, n2, n3, n4, n5, n6, n7.map (fun z => (z.1, (0 : Addr))), n15) : FnW) = (some (("__init__" : Str), d.cls ++ ".__init__", L2.defArgs d.st, FuncBody.stmts (L2.defBody d.st), L2.defScope d.st, mainGlobals, [(("__class__" : Str), (0 : Addr))], builtinsNs) : FnW) := e
    simp only [Option.some.injEq, Prod.mk.injEq] at e2
    obtain ⟨z1, z2, z3, z4, z5, z6, z7, z8⟩ := e2
    dsimp only at h14
    split at h14
    · rename_i nm cc cda
      obtain ⟨k1, k⟩ := ba h14
      obtain ⟨k2, k3⟩ := ba k
      subst z1 z2 z3 z4 z5 z6 z8
      have hnm : nm = "__class__" := by
        simp only [List.map_cons, List.map_nil, List.cons.injEq, Prod.mk.injEq] at z7
        exact z7.1.1
      subst hnm
      refine ⟨cc, cda, xclB_ok h1, eqO_ok h2, eqO_ok h3, eqO_ok h4, of_decide_eq_true h5, of_decide_eq_true h6, of_decide_eq_true h7, eqO_ok h8, eqO_ok h9, ?_, ?_, ?_⟩
      · split at k1
        · rename_i cl cld D csl lc
          rw [of_decide_eq_true k1] at lc
          exact ⟨_, _, _, lc⟩
        · cases k1
      · split at k2
        · rename_i ccl cdd vs ccs lc
          split at k2
          · rename_i fi tf hv
            rw [of_decide_eq_true k2] at hv
            exact ⟨_, _, _, _, _, lc, hv⟩
          · cases k2
        · cases k2
      · obtain ⟨me, p0, p1, p2, p4, p5, q1, q2, q3, q4, hb, hl, hm⟩ := W.body
        rw [hb] at lk
        exact ⟨oc, od, _, _, _, _, osl, _, _, _, me, p0, p1, p2, p4, p5, q1, q2, q3, q4, lk, k3, W.sc, hl, hm⟩
    · cases h14
  · cases h14
end EL
namespace EL
open PySem PySem.Spec PyProof.Rows L2 He TL
/-! ### the head with such errors -/
abbrev AlX : Type := AlM × List FnW
def obsX (fa : List Fa) (fn : List DefE) (xn : List DefX) (ex : PySem.W.Frag → Bool) (K : PySem.W.Frag) : AlX := (obsE fa fn ex K, xn.map fun d => fnWX K (d.ad K))
def obsXG (n : Nat) (fa : List Fa) (fn : List DefE) (xn : List DefX) (ex : PySem.W.Frag → Bool) (g : Addr → Option Obj) : AlX := obsX fa fn xn ex (frG g (He5.asA g n))
def valX (fn : List DefE) (xn : List DefX) : AlX := (valE fn, xn.map DefX.val)
def SaysX (fa : List Fa) (fn : List DefE) (xn : List DefX) (ex : PySem.W.Frag → Bool) (K : PySem.W.Frag) : Prop := obsX fa fn xn ex K = valX fn xn
def hookX (n : Nat) (fa : List Fa) (fn : List DefE) (xn : List DefX) (ex : PySem.W.Frag → Bool) : PySem.W.Hook where
  α := AlX
  obs := fun s => obsXG n fa fn xn ex s.heap.get?
  val := fun _ => valX fn xn
  says := fun _ h => ∃ K : PySem.W.Frag, K.In h ∧ SaysX fa fn xn ex K
  of := fun _ _ e => ⟨_, frG_in, e⟩
  keeps := fun _ _ _ ⟨K, hK, c⟩ k => ⟨K, PySem.W.Frag.In.keeps hK k, c⟩
theorem obsXG_eq {n : Nat} {fa : List Fa} {fn : List DefE} {xn : List DefX} {ex : PySem.W.Frag → Bool} {g : Addr → Option Obj} {s : Shared} (h : ∀ a, g a = s.heap.get? a) : obsXG n fa fn xn ex g = (hookX n fa fn xn ex).obs s := by
  have e : g = s.heap.get? := funext h
  rw [e] <;> rfl
section
variable {fa : List Fa} {fn : List DefE} {xn : List DefX} {ex : PySem.W.Frag → Bool} {K : PySem.W.Frag}
theorem SaysX.e (c : SaysX fa fn xn ex K) : SaysE fa fn ex K := congrArg (fun z : AlX => z.1) c
theorem SaysX.xd (c : SaysX fa fn xn ex K) (i : Nat) {d : DefX} (h : xn[i]? = some d := by rfl) : fnWX K (d.ad K) = d.val := by
  have e : xn.map (fun d => fnWX K (d.ad K)) = xn.map DefX.val := congrArg (fun z : AlX => z.2) c
  have e2 : (xn.map fun d => fnWX K (d.ad K))[i]? = (xn.map DefX.val)[i]? := by rw [e]
  rw [List.getElem?_map, List.getElem?_map, h] at e2
  exact Option.some.inj e2
end
end EL
namespace EL
open PySem PySem.Spec PyProof.Rows L2 He TL
/-! ### own dunders of instances with a dict -/
section
variable {X : Cx} {CX : CXT} {k : Nat} {C g : Addr} {sp : Sp} {E : XK}
theorem ins_at {pins : List (Addr × Obj)} {σ : L2.St} {H : Hp} {s : Shared} {a dx : Addr} {fs : List (Str × V)} (I : Inv X pins σ H s) (h : H a = some (.ins C dx fs)) : ∃ ox od, PySem.W.InstAt s.heap a ox C od ∧ ox.data = .plain := by
  obtain ⟨mA, O, _⟩ := ins_get I.hok h
  obtain ⟨od, J, _⟩ := O.look
  exact ⟨_, _, J, rfl⟩
/-- len(x) of an instance -/
def rLenO (C : Addr) (sp : Sp) (E : XK) : List V → Hp → VK → Prop := fun xs H Q => ∃ a dx fs, xs = [V.ref a] ∧ H a = some (.ins C dx fs) ∧ sp [.ref a] H (fun z H' => ∃ n : Int, z = .int n ∧ (0 ≤ n ∧ n < 2 ^ 63) ∧ Q z H') E
theorem call_lenO (hm : Meth X.K C "__len__" g) (F : FnR X.prog X.w X.K X.mg X.base CX k g sp) (hr : Room (k + 1) X.A) (hx : Passes CX X E) : CallR X (.builtin "len") (rLenO C sp E) := by
  intro pins s σ H xs us Q I r h
  obtain ⟨a, dx, fs, rfl, ha, q⟩ := h
  obtain ⟨u, rfl, ru⟩ := r.one
  cases (show u = Value.ref a from ru)
  obtain ⟨ox, od, J, _⟩ := ins_at I ha
  obtain ⟨m, hF⟩ := I.fr
  refine PySem.W.len_K hF I.ok.mod.kin J hm.at_ hm.fn (wpAny_mono (wpAny_call (SlX.run_at (us := [.ref a]) (ws := [.ref a]) F (Room.in1 hr) I.env0.in1 hx I (.cons rfl .nil) q)) (fun w s' z => ?_) fun _ _ x => x)
  obtain ⟨z', H', I', rz, n, en, hn, qz⟩ := z
  subst en
  obtain ⟨t, e⟩ := (show ∃ t, w = Value.int n t from rz)
  cases e
  exact ⟨hn, .int n, H', I'.tok _, ⟨_, rfl⟩, qz⟩
/-- x op y, x an instance of the class at C whose def for op is at g; y a thing whose type has no say first -/
def rCmpO (K : PySem.W.Frag) (C : Addr) (sp : Sp) (E : XK) : R2 := fun x y H Q => ∃ a dx fs t, x = .ref a ∧ H a = some (.ins C dx fs) ∧ TyX K H y t ∧ PySem.W.notFirst K C t = true ∧ sp [x, y] H Q E
theorem op_cmpO {op : CmpOp} (hop : ∀ a b, compareOp op a b = richCompare op a b) (hs : PySem.W.findIn X.K (.ref C) (cmpInfo op).2.1 = some (some (.ref g))) (hf : PySem.W.isFn X.K (.ref g) = true) (F : FnR X.prog X.w X.K X.mg X.base CX k g sp)
    (hr : Room k X.A) (hx : Passes CX X E) : OpR X (compareOp op) (rCmpO X.K C sp E) := by
  intro pins s σ H x y v u Q I rx ry h
  obtain ⟨a, dx, fs, t, rfl, ha, ty, hn, q⟩ := h
  cases (show v = Value.ref a from rx)
  obtain ⟨ox, od, J, _⟩ := ins_at I ha
  obtain ⟨P, Z, p, _⟩ := kit_of I ry ty
  obtain ⟨m, hF⟩ := I.fr
  rw [hop]
  refine PySem.W.cmp_K (op := op) (tb := t) hr.units0 hF I.ok.mod.kin J (Z.ty _ _ I.kIn p) hn hs hf ?_
  refine wpAny_mono (run_fnR (us := [.ref a, u]) (vs := [.ref a, y]) F hr hx I (.cons rfl (.cons ry .nil)) q |> wpAny_call) (fun w s' z => ?_) fun _ _ x => x
  obtain ⟨z', H', I', rz, qz⟩ := z
  exact SlX.cmpback rz ⟨z', H', I', rz, qz⟩
/-- y in x, x an instance with an own __contains__ that answers a bool -/
def rInO (C : Addr) (sp : Sp) (E : XK) (neg : Bool) : R2 := fun y x H Q => ∃ a dx fs, x = .ref a ∧ H a = some (.ins C dx fs) ∧ sp [x, y] H (fun z H' => ∃ b : Bool, z = .bl b ∧ Q (.bl (if neg then !b else b)) H') E
theorem op_inO (hm : Meth X.K C "__contains__" g) (F : FnR X.prog X.w X.K X.mg X.base CX k g sp) (hr : Room k X.A) (hx : Passes CX X E) : OpR X (compareOp .In) (rInO C sp E false) := by
  intro pins s σ H y x u v Q I ry rx h
  obtain ⟨a, dx, fs, rfl, ha, q⟩ := h
  cases (show v = Value.ref a from rx)
  obtain ⟨ox, od, J, _⟩ := ins_at I ha
  obtain ⟨m, hF⟩ := I.fr
  refine PySem.W.in_K hF I.ok.mod.kin J hm.at_ hm.fn (wpAny_mono (wpAny_call (run_fnR (us := [.ref a, u]) (vs := [.ref a, y]) F hr hx I (.cons rfl (.cons ry .nil)) q)) (fun w s' z => ?_) fun _ _ x => x)
  obtain ⟨z', H', I', rz, b, eb, qz⟩ := z
  subst eb
  cases (show w = Value.bool b from rz)
  exact wpAny_truthy_bool ⟨.bl b, H', I', rfl, qz⟩
theorem op_notInO (hm : Meth X.K C "__contains__" g) (F : FnR X.prog X.w X.K X.mg X.base CX k g sp) (hr : Room k X.A) (hx : Passes CX X E) : OpR X (compareOp .NotIn) (rInO C sp E true) := by
  intro pins s σ H y x u v Q I ry rx h
  obtain ⟨a, dx, fs, rfl, ha, q⟩ := h
  cases (show v = Value.ref a from rx)
  obtain ⟨ox, od, J, _⟩ := ins_at I ha
  obtain ⟨m, hF⟩ := I.fr
  refine PySem.W.notIn_K hF I.ok.mod.kin J hm.at_ hm.fn (wpAny_mono (wpAny_call (run_fnR (us := [.ref a, u]) (vs := [.ref a, y]) F hr hx I (.cons rfl (.cons ry .nil)) q)) (fun w s' z => ?_) fun _ _ x => x)
  obtain ⟨z', H', I', rz, b, eb, qz⟩ := z
  subst eb
  cases (show w = Value.bool b from rz)
  exact wpAny_truthy_bool ⟨.bl (!b), H', I', rfl, qz⟩
/-- ~x -/
theorem un_invO (hm : Meth X.K C "__invert__" g) (F : FnR X.prog X.w X.K X.mg X.base CX k g sp) (hr : Room k X.A) (hx : Passes CX X E) : UnR X (unaryOp .Invert) (fun x H Q => ∃ a dx fs, x = .ref a ∧ H a = some (.ins C dx fs) ∧ sp [x] H Q E) := by
  intro pins s σ H x v Q I rx h
  obtain ⟨a, dx, fs, rfl, ha, q⟩ := h
  cases (show v = Value.ref a from rx)
  obtain ⟨ox, od, J, _⟩ := ins_at I ha
  obtain ⟨m, hF⟩ := I.fr
  exact PySem.W.ksp_inv hF I.ok.mod.kin J hm.at_ hm.fn (wpAny_call (run_fnR (us := [.ref a]) (vs := [.ref a]) F hr hx I (.cons rfl .nil) q))
/-- x op y, two instances of the class at C -/
def rBinO (C : Addr) (sp : Sp) (E : XK) : R2 := fun x y H Q => ∃ a dx fs b dy gs, x = .ref a ∧ y = .ref b ∧ H a = some (.ins C dx fs) ∧ H b = some (.ins C dy gs) ∧ sp [x, y] H Q E
theorem op_binO {op : Operator} (hc : PySem.W.selfFirst X.K C = true) (hs : PySem.W.findIn X.K (.ref C) (PySem.dunder op.info.2) = some (some (.ref g))) (hf : PySem.W.isFn X.K (.ref g) = true) (F : FnR X.prog X.w X.K X.mg X.base CX k g sp)
    (hr : Room k X.A) (hx : Passes CX X E) : OpR X (binaryOp op) (rBinO C sp E) := by
  intro pins s σ H x y v u Q I rx ry h
  obtain ⟨a, dx, fs, b, dy, gs, rfl, rfl, ha, hb, q⟩ := h
  cases (show v = Value.ref a from rx)
  cases (show u = Value.ref b from ry)
  obtain ⟨ox, od, J, _⟩ := ins_at I ha
  obtain ⟨ox', od', J', _⟩ := ins_at I hb
  obtain ⟨m, hF⟩ := I.fr
  refine PySem.W.binop_K hF I.ok.mod.kin J J'.type hc hs hf ?_
  refine wpAny_mono (wpAny_call (run_fnR (us := [.ref a, .ref b]) (vs := [.ref a, .ref b]) F hr hx I (.cons rfl (.cons rfl .nil)) q)) (fun w s' z => ?_) fun _ _ x => x
  obtain ⟨z', H', I', rz, qz⟩ := z
  exact SlX.cmpback rz ⟨z', H', I', rz, qz⟩
end
end EL
namespace EL
open PySem PySem.Spec PyProof.Rows L2 He TL
/-! ### several except clauses, each with a name (slot i) or without -/
/-- a clause: its class, the slot of its name, its suite's reading -/
abbrev Cl1 : Type := Value × Option Nat × (Addr → Value → Option Addr → TS)
def wMix (K : PySem.W.Frag) (Wout : WX) (D : Ends) : List Cl1 → WX
  | [] => Wout
  | (c, none, ts) :: r => fun cls d σ H => ∃ b, PySem.W.exmOne K cls c = some b ∧ (b = true → ∀ a, H a = none → ts a cls d D σ H) ∧ (b = false → wMix K Wout D r cls d σ H)
  | (c, some i, ts) :: r => fun cls d σ H => ∃ b, PySem.W.exmOne K cls c = some b ∧
      (b = true → ∀ a, H a = none → ts a cls d { nx := fun σ' H' => D.nx (σ'.set i none) H', rt := D.rt, bk := fun σ' H' => D.bk (σ'.set i none) H', ct := fun σ' H' => D.ct (σ'.set i none) H' } (σ.set i (some (.ref a))) H) ∧
      (b = false → wMix K Wout D r cls d σ H)
inductive HdsMix (X : Cx) : List ExceptHandler → List Cl1 → Prop
  | nil : HdsMix X [] []
  | one {x : Str} {c : Value} {ts : Addr → Value → Option Addr → TS} {b₀ : Stmt} {suite : List Stmt} {np pos' : Pos} {hds : List ExceptHandler} {l : List Cl1} (hc : Names X x c)
      (hsu : ∀ (a : Addr) (oe : Obj) (cls : Value) (d : Option Addr) (pn : List (Addr × Obj)), Zc cls d oe → (∃ vs, oe.data = .fields vs) → PSs (X.suite a ((a, oe) :: pn)) (b₀ :: suite) (ts a cls d)) (r : HdsMix X hds l) :
      HdsMix X (.ExceptHandler (some (.Name x np)) none (b₀ :: suite) pos' :: hds) ((c, none, ts) :: l)
  | as_ {x n : Str} {i : Nat} {c : Value} {ts : Addr → Value → Option Addr → TS} {b₀ : Stmt} {suite : List Stmt} {np pos' : Pos} {hds : List ExceptHandler} {l : List Cl1} (hi : X.N[i]? = some n) (hln : X.env.kindOf n = some .local) (hc : Names X x c)
      (hsu : ∀ (a : Addr) (oe : Obj) (cls : Value) (d : Option Addr) (pn : List (Addr × Obj)), Zc cls d oe → (∃ vs, oe.data = .fields vs) → PSs (X.suite a ((a, oe) :: pn)) (b₀ :: suite) (ts a cls d)) (r : HdsMix X hds l) :
      HdsMix X (.ExceptHandler (some (.Name x np)) (some n) (b₀ :: suite) pos' :: hds) ((c, some i, ts) :: l)
section
variable {X : Cx} {body : List Stmt} {h₀ : ExceptHandler} {hds : List ExceptHandler} {l : List Cl1} {pos : Pos} {tb : WX → TS} {Wout : WX}
theorem ps_try_mix (hs : X.stack = X.env :: X.outer) (hf : X.env.frame = some X.env.locals) (hN : X.N.Nodup) (tk : Takes X Wout)
    (hb : ∀ (W : WX) (pn : List (Addr × Obj)) (xe : Value → Shared → Prop), Takes (X.tr pn xe) W → PassesOwn (model X.prog X.w) X.A X.env xe → PSs (X.tr pn xe) body (tb W))
    (hh : HdsMix X (h₀ :: hds) l) : PS X (.Try body (h₀ :: hds) [] [] pos) (fun D σ H => tb (wMix X.K Wout D l) D σ H) := by
  refine ⟨fun pins s σ H D I h => ?_⟩
  have ok := I.ok
  have hfr : X.A.frames = some (X.env :: X.outer) := by rw [ok.frames, hs]
  refine wpAny_Try_except ?_
  refine wpAny_mono ((hb (wMix X.K Wout D l) (X.pn ++ pins) (fun e s₁ => wpAny (model X.prog X.w) X.A (noteFrame e X.env) (fun _ s₂ => wpAny (model X.prog X.w) X.A (setFlight e none) (fun _ s₃ =>
    wpAny (model X.prog X.w) X.A (handleBy e X.env (h₀ :: hds)) (SP X pins D) X.xe s₃) X.xe s₂) X.xe s₁) (fun u s' xx => ?_) PassesOwn.looking).run [] s σ H D (I.toTry _) h) (fun f s1 hsp => ?_) (fun e s1 he => he)
  · -- the catch
    obtain ⟨a, B, sI, pins', σ', H', cls, d, rfl, J', nb, up, sky, na, os, ag, w⟩ := xx
    have J : Inv X pins σ' H' sI := J'.ofTry ok
    have sky' : Sky B (X.env :: X.outer) a (Zc cls d) X.env.locals s'.heap := by rw [← hs]; exact sky
    show wpAny (model X.prog X.w) X.A (noteFrame (.ref a) X.env) _ _ _
    refine Sky.land Zc.steady hfr hf sky' fun h3 fl3 up3 => ?_
    have J3 : Inv X pins σ' H' { s' with heap := h3 } := J.landed nb fl3.1 (up.trans up3) os ag
    obtain ⟨oe3, vs3, he3, hz3, hd3⟩ := fl3.there
    have notFr : ∀ {h : Heap} {o : Obj} {vs : Array Value}, h.FunFrames B (X.env :: X.outer) → h.get? a = some o → o.data = .fields vs → a ∉ frs (X.env :: X.outer) := fun {h o vs} ff e dd hm => by
      obtain ⟨_, o', e', hnf⟩ := ff.mem hm
      rw [e] at e'; cases e'
      exact hnf _ dd
    have nfr := notFr fl3.2.2.1 he3 hd3
    have nL : a ≠ X.env.locals := fun z => nfr (List.mem_filterMap.mpr ⟨X.env, List.mem_cons_self, by rw [hf, z]⟩)
    have nF : a ∉ X.fs := fun hm => by
      obtain ⟨e, he, q⟩ := List.mem_filterMap.mp hm
      exact nfr (List.mem_filterMap.mpr ⟨e, List.mem_cons_of_mem _ he, q⟩)
    have S3 := J3.suite he3 hd3 na nL nF
    have test : ∀ {x : Str} {c : Value} {np : Pos} {Q : Value → Shared → Prop} {E : Value → Shared → Prop}, Names X x c → Q c { s' with heap := h3 } → wpAny (model X.prog X.w) (X.A.mark (some (.ref a))) (eval (.Name x np) X.env) Q E { s' with heap := h3 } := fun {x c np Q E} hc q => by
      obtain ⟨hg, hdbg, hm | ⟨hm, hv, hnn⟩⟩ := hc
      · exact ld_glob (X := X.suite a ((a, oe3) :: (X.pn ++ pins))) S3 hg hm q hdbg
      · exact ld_blt (X := X.suite a ((a, oe3) :: (X.pn ++ pins))) S3 hg hm hv q hnn hdbg
    have LT : PySem.W.Looks (model X.prog X.w) h3 (typeOf (.ref a)) cls := fun A Q E s k q => wpAny_typeOf_ref (k _ _ he3) (by rw [hz3.1]; exact q)
    have go : ∀ {hds' : List ExceptHandler} {l' : List Cl1}, HdsMix X hds' l' → wMix X.K Wout D l' cls d σ' H' →
        wpAny (model X.prog X.w) X.A (handleBy (.ref a) X.env hds') (SP X pins D) X.xe { s' with heap := h3 } := by
      intro hds' l' hk
      induction hk with
      | nil =>
        intro w
        refine wpAny_handleBy_nil ?_
        obtain ⟨k1, k2, k3, oe, vs, T, oT, ts', he, hz, hd, h1, hr⟩ := id fl3
        unfold PySem.passOn
        refine wpAny_bind (wpAny_field he hd h1 ?_)
        rw [if_neg (show ¬ ((Value.ref T == Value.none) = true) from by simp)]
        have fin : wpAny (model X.prog X.w) X.A (setFlight (.ref a) X.env.frame) (fun _ s4 => wpAny (model X.prog X.w) X.A (throw (.ref a) : Sem Flow) (SP X pins D) X.xe s4) X.xe { s' with heap := h3 } := by
          rw [hf]
          refine HandSPX.setFlight_upZ fl3 fun h4 hh4 up4 => wpAny_throw (tk _ _ ?_)
          exact ⟨a, B, sI, pins, σ', H', cls, d, rfl, J, nb, (up.trans up3).trans up4, .inr (.inr (by rw [hs]; exact hh4)), na, os, ag, w⟩
        first
          | exact wpAny_bind (wpAny_pure (wpAny_bind fin))
          | exact wpAny_bind fin
      | @one x c ts b₀ suite np pos' hds2 l2 hc hsu r ih =>
        intro w
        obtain ⟨b, hb1, hyes, hno⟩ := w
        refine wpAny_handleBy_cons (codeAny_handlers_test ?_) (by intro q; cases q)
        have LM := PySem.W.exm_one (M := model X.prog X.w) (J3.kIn) LT hb1
        refine test hc (LM.here ?_)
        cases b with
        | true =>
          refine codeAny_handlers_suite ?_
          refine HandSPX.lands_againZ fl3 fun h4 fl4 up4 => ?_
          have J4 : Inv X pins σ' H' { s' with heap := h4 } := J.landed nb fl4.1 ((up.trans up3).trans up4) os ag
          obtain ⟨oe4, vs4, he4, hz4, hd4⟩ := fl4.there
          have S4 := J4.suite he4 hd4 na nL nF
          refine wpAny_mono ((hsu a oe4 cls d (X.pn ++ pins) hz4 ⟨_, hd4⟩).run [] _ _ H' _ S4 (hyes rfl a na)) (fun f s6 hsp => ?_) (fun _ _ z => False.elim z)
          cases f with
          | next =>
            obtain ⟨σ6, H6, S6, q6⟩ := hsp
            exact ⟨_, _, S6.unsuite ok, q6⟩
          | brk =>
            obtain ⟨σ6, H6, S6, q6⟩ := hsp
            exact ⟨_, _, S6.unsuite ok, q6⟩
          | cont =>
            obtain ⟨σ6, H6, S6, q6⟩ := hsp
            exact ⟨_, _, S6.unsuite ok, q6⟩
          | ret u =>
            obtain ⟨v6, σ6, H6, S6, r6, q6⟩ := hsp
            exact ⟨_, _, _, S6.unsuite ok, r6, q6⟩
        | false =>
          show wpAny _ X.A (handleBy (.ref a) X.env hds2) _ _ _
          exact ih (hno rfl)
      | @as_ x n i c ts b₀ suite np pos' hds2 l2 hi hln hc hsu r ih =>
        intro w
        obtain ⟨b, hb1, hyes, hno⟩ := w
        have hloc : Loc X.env.scope n := .inl hln
        refine wpAny_handleBy_cons (codeAny_handlers_test ?_) (by intro q; cases q)
        have LM := PySem.W.exm_one (M := model X.prog X.w) (J3.kIn) LT hb1
        refine test hc (LM.here ?_)
        cases b with
        | true =>
          refine codeAny_handlers_suite_as ?_
          refine HandSPX.lands_againZ fl3 fun h4 fl4 up4 => ?_
          have J4 : Inv X pins σ' H' { s' with heap := h4 } := J.landed nb fl4.1 ((up.trans up3).trans up4) os ag
          obtain ⟨oe4, vs4, he4, hz4, hd4⟩ := fl4.there
          have S4 := J4.suite he4 hd4 na nL nF
          refine store_ok (X := X.suite a ((a, oe4) :: (X.pn ++ pins))) (v := .ref a) S4 hN hi hloc rfl (fun s5 S5 => ?_) (.inr hln)
          refine wpAny_mono ((hsu a oe4 cls d (X.pn ++ pins) hz4 ⟨_, hd4⟩).run [] s5 _ H' _ S5 (hyes rfl a na)) (fun f s6 hsp => ?_) (fun _ _ z => False.elim z)
          have end_ : ∀ {σ6 : L2.St} {H6 : Hp} {Q : Shared → Prop}, Inv (X.suite a ((a, oe4) :: (X.pn ++ pins))) [] σ6 H6 s6 → (∀ s7, Inv X pins (σ6.set i none) H6 s7 → Q s7) →
              wpAny (model X.prog X.w) X.A (do bindName X.env n .none; unbindBehindTheSuite X.env n pos') (fun _ s7 => Q s7) X.xe s6 := fun {σ6 H6 Q} S6 hq => gone_ok (S6.unsuite ok) hN hi hln hq
          cases f with
          | next =>
            obtain ⟨σ6, H6, S6, q6⟩ := hsp
            exact end_ S6 fun s7 J7 => ⟨_, _, J7, q6⟩
          | brk =>
            obtain ⟨σ6, H6, S6, q6⟩ := hsp
            exact end_ S6 fun s7 J7 => ⟨_, _, J7, q6⟩
          | cont =>
            obtain ⟨σ6, H6, S6, q6⟩ := hsp
            exact end_ S6 fun s7 J7 => ⟨_, _, J7, q6⟩
          | ret u =>
            obtain ⟨v6, σ6, H6, S6, r6, q6⟩ := hsp
            exact end_ S6 fun s7 J7 => ⟨_, _, _, J7, r6, q6⟩
        | false =>
          show wpAny _ X.A (handleBy (.ref a) X.env hds2) _ _ _
          exact ih (hno rfl)
    exact go hh w
  · cases f with
    | next =>
      obtain ⟨σ', H', J', q⟩ := hsp
      exact wpAny_execs_nil ⟨σ', H', J'.ofTry ok, q⟩
    | brk =>
      obtain ⟨σ', H', J', q⟩ := hsp
      exact ⟨σ', H', J'.ofTry ok, q⟩
    | cont =>
      obtain ⟨σ', H', J', q⟩ := hsp
      exact ⟨σ', H', J'.ofTry ok, q⟩
    | ret u =>
      obtain ⟨v, σ', H', J', r, q⟩ := hsp
      exact ⟨v, σ', H', J'.ofTry ok, r, q⟩
end
end EL
namespace EL
open PySem PySem.Spec PyProof.Rows L2 He TL
/-! ### dict comprehensions whose keys are ints, texts or tuples of them -/
/-- the empty dict, either way -/
inductive NilD : HO → Prop where
  | k : NilD (.dK [])
  | t : NilD (.dT [])
theorem NilD.ok {P : Program} {w : World} {H : Hp} {o : HO} (n : NilD o) (h : Heap) (hb : sysModules < h.objs.size) : ObjOk P w H (h.push { cls := .type "dict", data := .dict #[] }) h.objs.size o := by
  cases n with
  | k => exact dk_empty h hb
  | t => exact dt_empty h hb
theorem put_by {X : Cx} {pins : List (Addr × Obj)} {σ : L2.St} {H H' : Hp} {s : Shared} {E : Value → Shared → Prop} {D : Addr} {y v : V} {u r : Value} {Q : Unit → Shared → Prop} (hu : X.A.units < cLine) (I : Inv X pins σ H s) (g : DPut H D y v H')
    (ry : RelV y u) (rv : RelV v r) (h : ∀ s', Inv X pins σ H' s' → Q () s') : wpAny (model X.prog X.w) X.A (dictSet D u r) Q E s := by
  rcases g with ⟨kvs, k, e, ey, l, eH⟩ | ⟨kvs, k, b, e, ey, eb, l, eH⟩
  · subst ey
    subst eH
    exact d_dictSet I e l ry rv h
  · subst ey
    subst eH
    obtain rfl : u = Value.ref b := ry
    obtain ⟨z, hd, xs, rel, dd⟩ := dt_of I.hok e
    refine wpAny_dictSet_heap (hsz := by rw [← Paired.length rel]; exact z) (show (tupleKind (mixKind X.prog X.w)).room X.A from hu) (key_of I.hok eb) dd fun h' dd' hs => h _ ?_
    obtain ⟨q, es, ep, hq, c2, c3, c4, _, c5⟩ := dd'
    have lz : (putK kvs k v).length ≤ sizeLine := by have := length_putK kvs k v; omega
    exact d_write I (by rw [e]; trivial) hs ⟨q, hq⟩ ⟨lz, hd, _, (rel.put k eb rv).keeps fun c ys ec => (upd_ne (ne_of ec e (fun z => nomatch z))).trans ec, q, es, ep, hq, c2, c3, c4, c5⟩
section
variable {X : Cx}
abbrev DcStep (g : TG) (tt : TT) (tk tv : TE) (vs : List Nat) (σ : L2.St) (D : Addr) (Nx : Hp → Prop) (x : V) (H : Hp) : Prop := g x (wipe σ vs) H fun σ2 H2 => wipe σ2 vs = wipe σ vs ∧ tt σ2 H2 fun b H3 =>
  if b = true then tk σ2 H3 fun y H4 => tv σ2 H4 fun z H5 => ∃ H6, DPut H5 D y z H6 ∧ Nx H6 else Nx H3
def tDcG (o0 : HO) (wi : TI) (g : TG) (tt : TT) (tk tv : TE) (vs : List Nat) : TE := fun σ H Q => wi σ H fun J H1 => ∀ D, H1 D = none → ∃ W : Nat → Nat → Hp → Prop, (∃ m, W 0 m (upd H1 D o0)) ∧ ∀ i m H, W i m H →
  (J.stop i H ∧ Q (.ref D) H) ∨ (J.go i H ∧ ∃ Nx : Hp → Prop, (∀ H', Nx H' → ∃ m', m' < m ∧ W (i + 1) m' H') ∧ ∀ x H', J.yld i H x H' → DcStep g tt tk tv vs σ D Nx x H')
theorem pe_dcG {o0 : HO} {kx vx tg iter : Expr} {ifs : List Expr} {scope : Scope} {own : List (Str × Nat)} {pos : Pos} {wi : TI} {g : TG} {tt : TT} {tk tv : TE} (n0 : NilD o0) (hu : X.A.units < cLine) (hc : X.calm = true) (hN : X.N.Nodup) (hi : PI X tg iter wi) (ok : BlkOk X.N X.env.scope scope own)
    (hg : ∀ (s : Shared) (H : Hp) (C : Addr) (cl : List (Str × Addr)) (fp : List Addr), PG (X.blk s H scope (compEnvC scope cl C X.env) fp) tg g) (ht : ∀ (s : Shared) (H : Hp) (C : Addr) (cl : List (Str × Addr)) (fp : List Addr), PTs (X.blk s H scope (compEnvC scope cl C X.env) fp) ifs tt)
    (hk : ∀ (s : Shared) (H : Hp) (C : Addr) (cl : List (Str × Addr)) (fp : List Addr), PE (X.blk s H scope (compEnvC scope cl C X.env) fp) kx tk)
    (hv : ∀ (s : Shared) (H : Hp) (C : Addr) (cl : List (Str × Addr)) (fp : List Addr), PE (X.blk s H scope (compEnvC scope cl C X.env) fp) vx tv) (hs : ∀ x, foldedSetIterable iter X.env x = pure x := by intro _; rfl) :
    PE X (.DictComp kx vx [⟨tg, iter, ifs, 0⟩] scope pos) (tDcG o0 wi g tt tk tv (own.map (·.2))) := by
  refine ⟨fun pins s σ H Q I h => ?_⟩
  rw [arm_eval_DictComp]
  have cl : ∀ y ∈ scope.names, y.2 = .free → ∃ c, X.env.cells.lookup y.1 = some c := fun y hy e => (ok.free y hy e).elim (fun k => I.ok.has _ (.inl k)) (fun k => I.ok.has _ (.inr k))
  refine wpAny_comprehension_free (use := none) rfl hs (closure_ok cl) ok.kind (fun y hy e => by rw [ok.uniq y hy, e]) (thn (hi.run pins s σ H _ I h) fun xv s1 hx => thn hx fun itv s2 h2 => ?_)
  obtain ⟨it, fp, tn, J, H2, e, I2, T, st2, f2, q⟩ := h2
  subst e
  refine wpAny_newObj_type (newEnv_comp ?_)
  generalize hD : s2.heap.objs.size = D
  obtain ⟨W, ⟨m0, w0⟩, turn⟩ := q D (I2.hok.fresh (Nat.le_of_eq hD))
  -- the new dict
  have h3 : ∃ s3 : Shared, ({ s2 with heap := s2.heap.push { cls := .type "dict", data := .dict #[] } } : Shared) = s3 := ⟨_, rfl⟩
  obtain ⟨s3, hs3⟩ := h3
  have hh3 : s3.heap = s2.heap.push { cls := .type "dict", data := .dict #[] } := by rw [← hs3]
  have h4 : ∃ H3, upd H2 D o0 = H3 := ⟨_, rfl⟩
  obtain ⟨H3, hH3⟩ := h4
  have I3 : Inv X pins σ H3 s3 := by
    rw [← hs3, ← hH3]
    refine I2.laid (t' := s2.toks) (fun b o e => Heap.get?_push_of_some _ e) (Nat.le_of_eq hD) ?_
    rw [← hD]
    exact n0.ok s2.heap I2.big
  rw [hH3] at w0
  have lt2 : ∀ b ∈ fp, b < s2.heap.objs.size := fun b hb => let ⟨o, e, _⟩ := T.obj _ _ st2 b hb; Heap.lt_size e
  have f3 : ∀ b ∈ fp, FpOk X pins H3 b ∧ b < s3.heap.objs.size := fun b hb => by
    refine ⟨⟨?_, (f2 b hb).2⟩, by rw [hh3, Heap.size_push]; exact Nat.lt_succ_of_lt (lt2 b hb)⟩
    rw [← hH3, upd_ne (by rw [← hD]; exact Nat.ne_of_lt (lt2 b hb))]
    exact (f2 b hb).1
  have I4 := block_start I3 ok hN f3
  rw [hs3]
  show codeAny _ _ (.compStart (.DictComp kx vx [⟨tg, iter, ifs, 0⟩] scope pos) 0 (.ref it) (.ref D) (compEnvC scope (cellsFrom (s3.heap.objs.size + 1) scope.names (cloFrom X.env.cells scope.names [])) s3.heap.objs.size X.env)) (compPost (model X.prog X.w) X.A X.xe none _ (.ref D) s3.heap.objs.size) { s3 with heap := pushCells (s3.heap.push { cls := .type "dict", data := .dict #[] }) scope.names }
  have pg := hg s3 H3 s3.heap.objs.size (cellsFrom (s3.heap.objs.size + 1) scope.names (cloFrom X.env.cells scope.names [])) fp
  have pt := ht s3 H3 s3.heap.objs.size (cellsFrom (s3.heap.objs.size + 1) scope.names (cloFrom X.env.cells scope.names [])) fp
  have pk := hk s3 H3 s3.heap.objs.size (cellsFrom (s3.heap.objs.size + 1) scope.names (cloFrom X.env.cells scope.names [])) fp
  have pv := hv s3 H3 s3.heap.objs.size (cellsFrom (s3.heap.objs.size + 1) scope.names (cloFrom X.env.cells scope.names [])) fp
  generalize hce : compEnvC scope (cellsFrom (s3.heap.objs.size + 1) scope.names (cloFrom X.env.cells scope.names [])) s3.heap.objs.size X.env = ce at I4 pg pt pk pv ⊢
  have cL : ce.locals = s3.heap.objs.size := by rw [← hce]; rfl
  have st4 : tn 0 (pushCells (s3.heap.push { cls := .type "dict", data := .dict #[] }) scope.names) := T.keep _ _ _ st2 fun b _ o e => pushCells_keeps _ _ _ _ (Heap.get?_push_of_some _ (by rw [hh3]; exact Heap.get?_push_of_some _ e))
  generalize hs4 : ({ s3 with heap := pushCells (s3.heap.push { cls := .type "dict", data := .dict #[] }) scope.names } : Shared) = s4 at I4 ⊢
  have st4' : tn 0 s4.heap := by rw [← hs4]; exact st4
  have stat : ∀ {σ' : L2.St} {H' : Hp} {s' : Shared}, Inv (X.blk s3 H3 scope ce fp) [] σ' H' s' → (∀ b ∈ fp, H' b = none) → ∀ b ∈ fp, FpOk (X.blk s3 H3 scope ce fp) [] H' b := fun I' hn b hb =>
    ⟨hn b hb, (I'.ok.exf b hb).1, I'.ok.exfs b hb, .inl hb, fun x c e => (I'.ok.exf b hb).2 x c e, fun p hp => by cases hp⟩
  have loop : codeAny (model X.prog X.w) X.A (.compLoop (.DictComp kx vx [⟨tg, iter, ifs, 0⟩] scope pos) 0 (.ref it) (.ref D) ce) (compPost (model X.prog X.w) X.A X.xe none (EP X pins σ Q) (.ref D) s3.heap.objs.size) s4 := by
    refine compLoop_anyD (fun n s' => ∃ i H', Inv (X.blk s3 H3 scope ce fp) [] (wipe σ (own.map (·.2))) H' s' ∧ tn i s'.heap ∧ (∀ b ∈ fp, H' b = none) ∧ W i n H') ?_ m0 ⟨0, H3, I4, st4', fun b hb => (f3 b hb).1.1, w0⟩
    rintro n s5 ⟨i, H5, I5, st5, n5, w5⟩
    rcases turn i n H5 w5 with ⟨stop, qq⟩ | ⟨go, Nx, hNx, step⟩
    · refine thnF (T.done (X.blk s3 H3 scope ce fp) rfl rfl rfl hc i [] s5 _ H5 (fun _ _ => False) I5 (stat I5 n5) st5 stop) fun r s6 ⟨hr, I6⟩ => ?_
      subst hr
      have I7 : Inv X pins σ H5 s6 := I3.call' (ch := fp) I6.os I6.base I6.hok I6.bare fun b hb => ⟨(f3 b hb).1.2.2.2.1, (f3 b hb).1.2.1, (f3 b hb).1.2.2.2.2.1, (f3 b hb).1.2.2.2.2.2⟩
      have nC : H5 s3.heap.objs.size = none := by rw [← cL]; exact I6.free
      obtain ⟨m, hn, _⟩ := I6.loc
      obtain ⟨a0, a1, a2, a3, a4, a5⟩ := I3.fpOk (Nat.le_refl _) nC
      refine ⟨m, by rw [← cL]; exact hn, fun h'' sb => ?_⟩
      exact ⟨.ref D, H5, I7.turned (t' := s6.toks) (fun b o hb e => (sb.2 b hb).trans e) a0 a1 a3 a4 a5, rfl, qq⟩
    · refine thnF (T.item (X.blk s3 H3 scope ce fp) rfl rfl rfl hc i [] s5 _ H5 (fun _ _ => False) I5 (stat I5 n5) st5 go) fun r s6 ⟨u, hr, h6⟩ => ?_
      subst hr
      refine thnF h6 fun _ s7 ⟨x, H7, I7, r7, y7, st7, n7⟩ => ?_
      refine thnF (pg.run _ s7 _ H7 x u _ (I7.pinned (stat I7 n7) (T.obj _ _ st7)) r7 (step x H7 y7)) fun _ s8 ⟨σ8, H8, I8, hw8, q8⟩ => ?_
      refine thnF (pt.run _ s8 σ8 H8 _ I8 q8) fun b s9 ⟨H9, I9, q9⟩ => ?_
      have fin : ∀ {s' : Shared} {H' : Hp}, Inv (X.blk s3 H3 scope ce fp) ([] ++ pinsAt fp s7.heap) σ8 H' s' → Nx H' → ∃ m, m < n ∧ ∃ i H', Inv (X.blk s3 H3 scope ce fp) [] (wipe σ (own.map (·.2))) H' s' ∧ tn i s'.heap ∧ (∀ b ∈ fp, H' b = none) ∧ W i m H' := fun {s' H'} I' nx => by
        obtain ⟨m', hm, w'⟩ := hNx H' nx
        have pin' : ∀ b ∈ fp, ∀ o, s7.heap.get? b = some o → s'.heap.get? b = some o ∧ H' b = none := fun b hb o e =>
          let z := I'.pin (b, o) (List.mem_append_right _ (List.mem_append_right _ (mem_pinsAt hb e)))
          ⟨z.1, z.2.1⟩
        refine ⟨m', hm, i + 1, H', (I'.unpinned (pins := [])).weak (by rw [← hw8, wipe_length]) (fun j v e => (wipe_some (by rw [hw8]; exact e)).1), T.keep _ _ _ st7 fun b hb o e => (pin' b hb o e).1, fun b hb => ?_, w'⟩
        obtain ⟨o, e, _⟩ := T.obj _ _ st7 b hb
        exact (pin' b hb o e).2
      cases b with
      | false => exact fin I9 q9
      | true =>
        refine thnF (pk.run _ s9 σ8 H9 _ I9 q9) fun z s10 ⟨yk, H10, I10, r10, q10⟩ => ?_
        refine thnF (pv.run _ s10 σ8 H10 _ I10 q10) fun z2 s11 ⟨yv, H11, I11, r11, H12, dp, nx⟩ => ?_
        exact put_by (X := X.blk s3 H3 scope ce fp) hu I11 dp r10 r11 fun s12 I12 => fin I12 nx
  exact codeAny_compStart_dict loop (T.self X.A 0 _ _ _ st4' loop)
/-- the turns of such a comprehension -/
theorem dcG_it {J : It} {n : Nat} {G : Hp → Prop} {Y : Nat → Hp → V → Hp → Prop} (w : L2.Walk J n G Y) {o0 : HO} {g : TG} {tt : TT} {tk tv : TE} {vs : List Nat} {σ : L2.St} {H1 : Hp} {D : Addr} {Qd : Hp → Prop} (Pv : Nat → Hp → Prop) (h0 : Pv 0 (upd H1 D o0)) (hG : ∀ i H, i ≤ n → Pv i H → G H)
    (hs : ∀ i x H H', i < n → Pv i H → Y i H x H' → DcStep g tt tk tv vs σ D (Pv (i + 1)) x H') (hd : ∀ H, Pv n H → Qd H) :
    ∃ W : Nat → Nat → Hp → Prop, (∃ m, W 0 m (upd H1 D o0)) ∧ ∀ i m H, W i m H → (J.stop i H ∧ Qd H) ∨ (J.go i H ∧ ∃ Nx : Hp → Prop, (∀ H', Nx H' → ∃ m', m' < m ∧ W (i + 1) m' H') ∧ ∀ x H', J.yld i H x H' → DcStep g tt tk tv vs σ D Nx x H') := by
  refine ⟨fun i m H => m + i = n ∧ Pv i H, ⟨n, rfl, h0⟩, fun i m H ⟨hm, p⟩ => ?_⟩
  have q := hG i H (by omega) p
  cases m with
  | zero =>
    have e : i = n := by omega
    subst e
    exact .inl ⟨w.stops H q, hd H p⟩
  | succ m => exact .inr ⟨w.goes i H (by omega) q, Pv (i + 1), fun H' p' => ⟨m, Nat.lt_succ_self m, by omega, p'⟩, fun x H' y => hs i x H H' (by omega) p (w.yields i H x H' (by omega) q y)⟩
end
end EL
namespace EL
open PySem PySem.Spec PyProof.Rows L2 He TL
/-! ### what may change: the objects in S; tuples never -/
def Rig : HO → Bool
  | .tup _ => true
  | .frz _ _ => true
  | _ => false
structure Md (S : List Addr) (H H' : Hp) : Prop where
  out : ∀ b o, H b = some o → b ∉ S → H' b = some o
  rig : ∀ b o, H b = some o → Rig o = true → H' b = some o
section
variable {S S' : List Addr} {H H1 H2 : Hp} {K : PySem.W.Frag} {a p : Addr} {o o' : HO}
theorem Md.refl (S : List Addr) (H : Hp) : Md S H H := ⟨fun _ _ h _ => h, fun _ _ h _ => h⟩
theorem Md.of (s : Same H H1) : Md S H H1 := ⟨fun b o h _ => s b o h, fun b o h _ => s b o h⟩
theorem Md.trans (x : Md S H H1) (y : Md S H1 H2) : Md S H H2 := ⟨fun b o h n => y.out b o (x.out b o h n) n, fun b o h r => y.rig b o (x.rig b o h r) r⟩
theorem Md.mono (x : Md S H H1) (h : ∀ b ∈ S, b ∈ S') : Md S' H H1 := ⟨fun b o e n => x.out b o e fun z => n (h b z), x.rig⟩
theorem Md.upd (e : H a = some o) (r : Rig o = false) (m : a ∈ S) : Md S H (upd H a o') :=
  ⟨fun b u h n => (upd_ne (fun z : b = a => n (by rw [z]; exact m))).trans h, fun b u h ru => (upd_ne (fun z : b = a => by rw [z, e] at h; cases h; rw [r] at ru; cases ru)).trans h⟩
/-- what is new is not seen from before -/
theorem Md.new (x : Md (p :: S) H1 H2) (s : Same H H1) (n : H p = none) : Md S H H2 :=
  ⟨fun b u h m => x.out b u (s b u h) (fun z => (List.mem_cons.mp z).elim (fun z => ne_of_none h n z) m), fun b u h r => x.rig b u (s b u h) r⟩
theorem Md.newM (x : Md (p :: S) H1 H2) (s : Md S H H1) (n : H p = none) : Md S H H2 :=
  ⟨fun b u h m => x.out b u (s.out b u h m) (fun z => (List.mem_cons.mp z).elim (fun z => ne_of_none h n z) m), fun b u h r => x.rig b u (s.rig b u h r) r⟩
theorem Md.same (x : Md [] H H1) : Same H H1 := fun b o h => x.out b o h (by simp)
theorem But.md (b : But p H H1) (e : H p = some o) (r : Rig o = false) : Md [p] H H1 :=
  ⟨fun c u h n => b c u h (fun z => n (by rw [z]; simp)), fun c u h ru => b c u h (fun z => by rw [z, e] at h; cases h; rw [r] at ru; cases ru)⟩
theorem Md.but (x : Md [p] H H1) : But p H H1 := fun b o h n => x.out b o h (by simp [n])
theorem Md.sqT (x : Md S H H1) {xs : List V} (h : SqT K H a xs) : SqT K H1 a xs := by
  rcases h with (h | ⟨o, h⟩) | h
  · exact .inl (.inl (x.rig _ _ h rfl))
  · exact .inl (.inr ⟨o, x.rig _ _ h rfl⟩)
  · exact .inr h
end
mutual
def noL : PyData → Bool
  | .list _ => false
  | .dict _ => false
  | .tuple xs => noLs xs
  | .none => true
  | .bool _ => true
  | .int _ => true
  | .str _ => true
def noLs : List PyData → Bool
  | [] => true
  | x :: r => noL x && noLs r
end
mutual
theorem Md.dp {S : List Addr} {K : PySem.W.Frag} {H H' : Hp} (s : Md S H H') : ∀ {d : PyData} {v : V}, noL d = true → Dp K H v d → Dp K H' v d
  | _, _, _, .non => .non
  | _, _, _, .bl b => .bl b
  | _, _, _, .int i => .int i
  | _, _, _, .str x => .str x
  | _, _, n, .lst h a => by cases n
  | _, _, n, .tup h a => .tup (s.sqT h) (Md.dpAll s n a)
theorem Md.dpAll {S : List Addr} {K : PySem.W.Frag} {H H' : Hp} (s : Md S H H') : ∀ {ds : List PyData} {vs : List V}, noLs ds = true → DpAll K H vs ds → DpAll K H' vs ds
  | _, _, _, .nil => .nil
  | _, _, n, .cons a b => .cons (Md.dp s (Bool.and_eq_true_iff.mp n).1 a) (Md.dpAll s (Bool.and_eq_true_iff.mp n).2 b)
end
/-- data without lists, laid and not deep -/
structure Pd (d : PyData) : Prop where
  nl : noL d = true
  cl : d.canLay0 = true
  dp : d.depth ≤ 16
theorem Pd.shaped {d : PyData} (h : Pd d) : SeqAt.shaped d = true := Bool.and_eq_true_iff.mpr ⟨h.cl, decide_eq_true (Nat.le_trans h.dp (by decide))⟩
def Pds (ds : List PyData) : Prop := ∀ d ∈ ds, Pd d
theorem Pds.nl : ∀ {ds : List PyData}, Pds ds → noLs ds = true
  | [], _ => rfl
  | d :: r, h => Bool.and_eq_true_iff.mpr ⟨(h d (by simp)).nl, Pds.nl fun x hx => h x (by simp [hx])⟩
theorem Pds.cl : ∀ {ds : List PyData}, Pds ds → PyData.canLayAll0 ds = true
  | [], _ => rfl
  | d :: r, h => Bool.and_eq_true_iff.mpr ⟨(h d (by simp)).cl, Pds.cl fun x hx => h x (by simp [hx])⟩
theorem Pds.dp : ∀ {ds : List PyData}, Pds ds → PyData.depthAll ds ≤ 16
  | [], _ => Nat.zero_le _
  | d :: r, h => Nat.max_le.mpr ⟨(h d (by simp)).dp, Pds.dp fun x hx => h x (by simp [hx])⟩
theorem Pds.shaped {ds : List PyData} (h : Pds ds) : SeqAt.shaped (.list ds) = true := Bool.and_eq_true_iff.mpr ⟨h.cl, decide_eq_true (by show PyData.depthAll ds + 1 ≤ 64; have := h.dp; omega)⟩
theorem Pds.snoc {ds : List PyData} {d : PyData} (h : Pds ds) (k : Pd d) : Pds (ds ++ [d]) := fun x hx => (List.mem_append.mp hx).elim (h x) fun z => by cases List.mem_singleton.mp z; exact k
theorem Pds.refl {ds : List PyData} (h : Pds ds) : PyData.eqv (.list ds) (.list ds) = true := SeqAt.eqv_refl _ h.cl
theorem DpAll.snoc {K : PySem.W.Frag} {H : Hp} {v : V} {d : PyData} (k : Dp K H v d) : ∀ {ds : List PyData} {vs : List V}, DpAll K H vs ds → DpAll K H (vs ++ [v]) (ds ++ [d])
  | _, _, .nil => .cons k .nil
  | _, _, .cons a b => .cons a (DpAll.snoc k b)
theorem DpAll.get {K : PySem.W.Frag} {H : Hp} : ∀ {ds : List PyData} {vs : List V} {i : Nat} {v : V}, DpAll K H vs ds → vs[i]? = some v → ∃ d, ds[i]? = some d ∧ Dp K H v d
  | _, _, 0, _, .cons a b, e => by cases e; exact ⟨_, rfl, a⟩
  | _, _, i + 1, _, .cons a b, e => DpAll.get (i := i) b e
/-! ### a caught error that has a dict: isinstance, where the answer is yes -/
theorem kit_yes {K : PySem.W.Frag} {x t c : Value} {Hq : Heap → Prop} (ty : ∀ (M : Model) (h : Heap), K.In h → Hq h → PySem.W.Looks M h (typeOf x) t) (e : PySem.W.kitOne K t c = some true) : Answers (fun s => K.In s.heap ∧ Hq s.heap) x c true := by
  intro dep tk prog w A R s hs
  obtain ⟨⟨X, p⟩, hq⟩ := hs
  obtain ⟨h0, g, d, tt, os⟩ := s
  have LT := ty (model prog w) h0 X p
  unfold PySem.W.kitOne at e
  unfold Builtin.«isinstance.nested»
  refine wpAny_bind (LT.at ?_)
  by_cases q : (t == c) = true
  · rw [if_pos q]
    first
      | exact wpAny_bind (wpAny_rule (hq tt))
      | exact wpAny_bind (wpAny_rule (wpAny_pure (hq tt)))
      | exact wpAny_pure (hq tt)
      | exact wpAny_bind (wpAny_pure (hq tt))
  · rw [if_neg q] at e
    rw [if_neg q]
    obtain ⟨k1, k2, k3⟩ := PySem.W.kit_cls (M := model prog w) X e
    refine wpAny_bind (k1.at ?_)
    rw [if_pos (by decide)]
    k_delta "plainIsInstance"
    refine wpAny_bind (wpAny_bind (k2.at ?_))
    simp only [Bool.not_true, Bool.false_eq_true, if_false]
    refine wpAny_bind ((LT.andThen k3).at ?_)
    first
      | exact wpAny_pure (wpAny_pure (hq tt))
      | (simp only [if_true]; first | exact wpAny_pure (wpAny_pure (hq tt)) | exact wpAny_pure (hq tt) | exact wpAny_bind (wpAny_pure (wpAny_pure (hq tt))))
def rIsY (K : PySem.W.Frag) (cls : Value) (a : Addr) : List V → Hp → VK → Prop := fun xs H Q => ∃ (c : V) (cv : Value), xs = [.ref a, c] ∧ (∀ u, RelV c u → u = cv) ∧ PySem.W.kitOne K cls cv = some true ∧ Q (.bl true) H
theorem call_isY {X : Cx} {a : Addr} {oe : Obj} {pn : List (Addr × Obj)} {cls : Value} {d : Option Addr} (hz : Zc cls d oe) : CallR (X.suite a ((a, oe) :: pn)) (.builtin "isinstance") (rIsY X.K cls a) := by
  intro pins s σ H xs us Q I r h
  obtain ⟨c, cv, rfl, hcv, e, q⟩ := h
  cases r with
  | cons rx rr =>
    cases rr with
    | cons rt rr =>
      cases rr
      cases rx
      cases hcv _ rt
      obtain ⟨hget, _⟩ := I.pin (a, oe) (List.mem_append.mpr (.inl List.mem_cons_self))
      refine call_isinstance (S := fun _ R s => (X.K.In s.heap ∧ s.heap.get? a = some oe) ∧ ∀ tk, R (.ok (.ret (.bool true))) { s with toks := tk })
        (fun prog w A R s hs => isinstance_outer (kit_yes (Hq := fun h => h.get? a = some oe) (t := cls) (fun M h _ e0 A Q E s k q => wpAny_typeOf_ref (k _ _ e0) (by rw [hz.1]; exact q)) e 0 _ prog w A R s hs) (fun z => nomatch z)) ⟨⟨I.kIn, hget⟩, fun tk => ?_⟩
      exact ⟨.bl true, H, I.kept (t' := tk) fun _ _ z => z, rfl, q⟩
/-! ### defs with defaults at any address -/
theorem fnD {P : Program} {w : World} {K : PySem.W.Frag} {mg : Str → Option Value} {base : Heap} {CX : CXT} {k : Nat} {x qual : Str} {sp : Sp} {params : Arguments} {body : List Stmt} {scope : Scope} {f : Addr} {fd : FuncData} {ps : List Str} {dvs : List V}
    (F : FunD K x qual params body scope dvs [] f fd) (ok : FnOk P w K mg base CX k f fd ps sp) (n j : Nat) (hd : dvs ≠ []) (hn : n + (dvs.length - j) = ps.length)
    (h : ∀ (T : Addr) (kV doc pm : Value) (an : Option Addr) (cdv ct : Value) (us its : List Value), us.length = n → its.length = dvs.length →
      ∃ k, bindArgs (PySem.W.fnOf x qual params body scope (.ref T) kV doc pm an cdv ct) ⟨us, []⟩ = seqItems? (.ref T) >>= k ∧ k (some its.toArray) = pure (ps.zip (us ++ its.drop j))) :
    FnR P w K mg base CX k f (fun vs H Q E => sp (vs ++ dvs.drop j) H Q E) := by
  obtain ⟨ds, h1, h2⟩ := F.binds1 n j hd hn h
  exact ok.raw h2 h1
/-- C() by an __init__ whose parameters all have defaults -/
theorem pe_makeE0 {X : Cx} {CX : CXT} {k : Nat} {C f : Addr} {x : Str} {sp : Sp} {E : L2.St → XK} {p pos : Pos} (M : Mk X.K C f) (F : FnR X.prog X.w X.K X.mg X.base CX k f sp) (hr : Room (k + 1) X.A) (hm : X.mg x = some (.ref C)) (hx : ∀ σ, PassesAt CX X σ (E σ)) (hg : Gl X x := by rfl) (hdb : (x == ("__debug__" : Str)) = false := by decide) :
    PE X (.Call (.Name x p) [] [] pos) (tMakeE C sp E tNil) := by
  refine ⟨fun pins s σ H Q I h => ?_⟩
  refine wpAny_Call_Name_kw (ld_glob I hg hm ?_ hdb)
  exact PySem.W.callWith_K0 (first := []) I.kIn M.kp (run_makeE (us := []) (vs := []) M F hr (hx σ) I .nil h)
def tupAB (K : PySem.W.Frag) (a : Addr) : Bool := match K.lookup a with
  | some ⟨.type c, _, .seq its _, _⟩ => decide (c = "tuple") && decide (its = #[])
  | _ => false
theorem tupAB_ok {K : PySem.W.Frag} {a : Addr} (h : tupAB K a = true) (H : Hp) : SqT K H a [] := by
  unfold tupAB at h
  split at h
  · rename_i c od its n osl q
    obtain ⟨h1, h2⟩ := ba h
    have e2 := of_decide_eq_true h2
    subst e2
    exact .inr ⟨_, #[], n, q, congrArg Value.type (of_decide_eq_true h1), rfl, by decide, .nil⟩
  · cases h
theorem tYes_of {σ : L2.St} {H : Hp} {F G : Hp → Prop} (h : F H) : tYes σ H fun b H3 => if b = true then F H3 else G H3 := by
  show if true = true then F H else G H
  rw [if_pos rfl]
  exact h
/-- try .. except X: with a name for its reading (a loop's body) -/
def tTryO (K : PySem.W.Frag) (c : Value) (ts : Addr → Value → Option Addr → TS) (Wout : WX) (tb : WX → TS) : TS := fun D σ H => tb (wOnly K c ts Wout D) D σ H
theorem ps_tryO {X : Cx} {x : Str} {c : Value} {body suite : List Stmt} {b₀ : Stmt} {np pos pos' : Pos} {tb : WX → TS} {ts : Addr → Value → Option Addr → TS} {Wout : WX} (hs : X.stack = X.env :: X.outer) (hf : X.env.frame = some X.env.locals) (hc : Names X x c) (tk : Takes X Wout)
    (hb : ∀ (W : WX) (pn : List (Addr × Obj)) (xe : Value → Shared → Prop), Takes (X.tr pn xe) W → PassesOwn (model X.prog X.w) X.A X.env xe → PSs (X.tr pn xe) body (tb W))
    (hsu : ∀ (a : Addr) (oe : Obj) (cls : Value) (d : Option Addr) (pn : List (Addr × Obj)), Zc cls d oe → (∃ vs, oe.data = .fields vs) → PSs (X.suite a ((a, oe) :: pn)) (b₀ :: suite) (ts a cls d)) :
    PS X (.Try body [.ExceptHandler (some (.Name x np)) none (b₀ :: suite) pos'] [] [] pos) (tTryO X.K c ts Wout tb) := ps_try_only hs hf hc tk hb hsu
end EL
namespace EL
open PySem PySem.Spec PyProof.Rows L2 He TL
/-! ### an exception that leaves a comprehension -/
theorem note_same {ce env : Env} (h : ce.frame = env.frame) (x : Value) : noteFrame x ce = noteFrame x env := by
  unfold noteFrame PySem.frameOf
  rw [h]
theorem comp_leave {X : Cx} {W : WX} (tk : Takes X W) (hs : X.stack = X.env :: X.outer) (hf : X.env.frame = some X.env.locals) {pins : List (Addr × Obj)} {σ : L2.St} {H : Hp} {s s' : Shared} (I : Inv X pins σ H s) {C : Addr} {m : Str → Option Value} (hn : s.heap.Ns C m) (hC : FpOk X pins H C)
    {E : XK} (hW : ∀ cls d H', E cls d H' → W cls d σ H') {e : Value} (c : L2.CX X.prog X.w X.stack H s E e s') {ce : Env} (hce : ce.frame = X.env.frame) {what : String} {E₁ : Value → Shared → Prop} :
    wpAny (model X.prog X.w) X.A (noteFrame e ce) (fun _ s1 => ∃ m, s1.heap.Ns C m ∧ ∀ h', Heap.SameBut C s1.heap h' → wpAny (model X.prog X.w) X.A (passOn what e ce : Sem Value) (fun _ _ => False) X.xe { s1 with heap := h' }) E₁ s' := by
  obtain ⟨a, B, H', cls, d, rfl, fl, hok, ub, na, os, ag, hE⟩ := c
  obtain ⟨oC, es, ep, gC, dC, rC⟩ := hn
  obtain ⟨f0, f1, f2, f3, f4, f5⟩ := hC
  have nfC : C ∉ frs X.stack := by
    rw [hs]
    intro z
    obtain ⟨env, he, q⟩ := List.mem_filterMap.mp z
    rcases List.mem_cons.mp he with rfl | he
    · rw [hf] at q
      exact f1 (Option.some.inj q).symm
    · exact f2 (List.mem_filterMap.mpr ⟨env, he, q⟩)
  have bC : B.get? C = some oC := ub.keep C oC gC f0 nfC
  obtain ⟨oe, vs, T, oT, ts, he, hz, hd, h1, hnT, hTe, hT, hdT, h3⟩ := fl.2.2.2
  have sC : s'.heap.get? C = some oC := fl.1 _ _ bC
  have aC : a ≠ C := fun z => by rw [z, sC] at he; cases he; rw [dC] at hd; cases hd
  have TC : T ≠ C := fun z => by rw [z, sC] at hT; cases hT; rw [dC] at hdT; cases hdT
  -- the three heaps without C
  obtain ⟨Gs, gs1, gs2⟩ := restrict s.heap fun b => decide (b ≠ C)
  obtain ⟨B', b1, b2⟩ := restrict B fun b => decide (b ≠ C)
  obtain ⟨Q', q1, q2⟩ := restrict s'.heap fun b => decide (b ≠ C)
  have gsS : ∀ b o, Gs.get? b = some o → b ≠ C ∧ s.heap.get? b = some o := fun b o h => by
    by_cases z : b = C
    · rw [gs2 b (by simp [z])] at h; cases h
    · exact ⟨z, (gs1 b (decide_eq_true z)).symm.trans h⟩
  have bS : ∀ b o, B'.get? b = some o → b ≠ C ∧ B.get? b = some o := fun b o h => by
    by_cases z : b = C
    · rw [b2 b (by simp [z])] at h; cases h
    · exact ⟨z, (b1 b (decide_eq_true z)).symm.trans h⟩
  have qS : ∀ b o, Q'.get? b = some o → b ≠ C ∧ s'.heap.get? b = some o := fun b o h => by
    by_cases z : b = C
    · rw [q2 b (by simp [z])] at h; cases h
    · exact ⟨z, (q1 b (decide_eq_true z)).symm.trans h⟩
  have IP : Inv X pins σ H { s with heap := Gs } := I.turned (t' := s.toks) (fun b o hb e => (gs1 b (decide_eq_true hb)).trans e) f0 f1 f3 f4 f5
  have hC' : H' C = none := ub.free C oC gC f0
  have stB : B'.StaysIn Q' := fun b o h => (q1 b (decide_eq_true (bS b o h).1)).trans (fl.1 b o (bS b o h).2)
  have ff : Q'.FunFrames B' X.stack := by
    have go : ∀ l : List Env, C ∉ frs l → s'.heap.FunFrames B l → Q'.FunFrames B' l := by
      intro l
      induction l with
      | nil => intro _ _; trivial
      | cons env r ih =>
        rintro hc ⟨k1, ⟨L, o, k2, k3, k4, k5⟩, k6⟩
        have LC : L ≠ C := fun z => hc (List.mem_filterMap.mpr ⟨env, List.mem_cons_self, by rw [k2, z]⟩)
        refine ⟨k1, ⟨L, o, k2, (b1 L (decide_eq_true LC)).trans k3, (q1 L (decide_eq_true LC)).trans k4, k5⟩, ih (fun z => hc ?_) k6⟩
        obtain ⟨env', h1, h2⟩ := List.mem_filterMap.mp z
        exact List.mem_filterMap.mpr ⟨env', List.mem_cons_of_mem _ h1, h2⟩
    exact go _ nfC fl.2.2.1
  have aB' : ∀ {b : Addr}, B.get? b = none → B'.get? b = none := fun {b} h => by
    cases q : B'.get? b with
    | none => rfl
    | some o => rw [(bS b o q).2] at h; cases h
  have fl' : HandSPX.FlyingZ B' X.stack a (Zc cls d) Q' := ⟨stB, aB' fl.2.1, ff, oe, vs, T, oT, ts, (q1 a (decide_eq_true aC)).trans he, hz, hd, h1, aB' hnT, hTe, (q1 T (decide_eq_true TC)).trans hT, hdT, h3⟩
  have hok' : HOk X.prog X.w H' B' := fun b o h => (hok b o h).stay (fun c u hc q => by
    have hcC : c ≠ C := fun z => by
      rcases hc with hc | hc
      · rw [hc] at z; rw [z, hC'] at h; cases h
      · rw [z, hC'] at hc; cases hc
    exact (b1 c (decide_eq_true hcC)).trans q) (fun _ q => q) (fun _ _ q => q)
  have ub' : UB (frs X.stack) H H' Gs B' Q' :=
    ⟨fun b o h1 h2 h3 => (b1 b (decide_eq_true (gsS b o h1).1)).trans (ub.keep b o (gsS b o h1).2 h2 h3), fun b o h1 h2 => by
      obtain ⟨sl, e⟩ := ub.slot b o (gsS b o h1).2 h2
      exact ⟨sl, (q1 b (decide_eq_true (gsS b o h1).1)).trans e⟩, fun b o h1 h2 => ub.free b o (gsS b o h1).2 h2, fun b o h1 h2 => by
      obtain ⟨o', e⟩ := ub.there b o (gsS b o h1).2 h2
      exact ⟨o', (b1 b (decide_eq_true (gsS b o h1).1)).trans e⟩, ub.tups, ub.frzs, ub.tbls⟩
  have xx : XE X W (.ref a) { s' with heap := Q' } := XE.of_call IP hW ⟨a, B', H', cls, d, rfl, fl', hok', ub', na, os, ag, hE⟩
  obtain ⟨a2, B0, sI, pins2, σ2, H2, cls2, d2, ea, I2, nb, up, sky, na2, os2, ag2, w2⟩ := xx
  obtain rfl : a = a2 := by injection ea
  have qa : Q'.get? a = some oe := (q1 a (decide_eq_true aC)).trans he
  have fl0 : HandSPX.FlyingZ B0 X.stack a (Zc cls2 d2) s'.heap := by
    rcases sky with ⟨_, _, _, oe', vs', he', _, hd', h1'⟩ | ⟨k1, k2, k3, oe', vs', T', oT', ts', he', hz', hd', h1', hnT', hTe', hT', hdT', h3'⟩ | ⟨_, _, _, oe', vs', T', oT', ts', he', _, hd', h1', _, _, hT', hdT', h3'⟩
    · have e1 : oe = oe' := Option.some.inj (qa.symm.trans he')
      subst e1
      rw [hd] at hd'
      cases hd'
      rw [h1] at h1'
      cases h1'
    · refine ⟨fun b o h => (qS b o (k1 b o h)).2, k2, k3.of_keeps (fun b o h _ => ⟨o, (qS b o h).2, rfl⟩), oe', vs', T', oT', ts', (qS _ _ he').2, hz', hd', h1', hnT', hTe', (qS _ _ hT').2, hdT', h3'⟩
    · have e1 : oe = oe' := Option.some.inj (qa.symm.trans he')
      subst e1
      rw [hd] at hd'
      cases hd'
      rw [h1] at h1'
      cases h1'
      have e2 : oT = oT' := Option.some.inj (((q1 T (decide_eq_true TC)).trans hT).symm.trans hT')
      subst e2
      rw [hdT] at hdT'
      cases hdT'
      rw [h3] at h3'
      cases h3'
  have B0C : B0.get? C = none := by
    cases q : B0.get? C with
    | none => rfl
    | some o =>
      have : B0.StaysIn Q' := by
        rcases sky with ⟨k, _⟩ | ⟨k, _⟩ | ⟨k, _⟩ <;> exact k
      exact absurd rfl (qS C o (this C o q)).1
  rw [note_same hce]
  have hfr : X.A.frames = some (X.env :: X.outer) := by rw [I.ok.frames, hs]
  rw [hs] at fl0
  refine HandSPX.looks_onZ Zc.steady hfr hf fl0 fun h1' held up1 => ?_
  obtain ⟨sl, eC⟩ := up1 C oC sC (fun vs z => by rw [dC] at z; cases z)
  refine ⟨m, ⟨_, es, ep, eC, dC, rC⟩, fun h2 sb => ?_⟩
  -- held, whatever became of C
  obtain ⟨j1, j2, j3, oe4, vs4, T4, oT4, ts4, he4, hz4, hd4, h14, hnT4, hTe4, hT4, hdT4, h34⟩ := held
  have a4 : a ≠ C := aC
  have T4C : T4 ≠ C := fun z => by rw [z, eC] at hT4; cases hT4; rw [dC] at hdT4; cases hdT4
  have k2 : ∀ b, b ≠ C → ∀ o, h1'.get? b = some o → h2.get? b = some o := fun b hb o h => (sb.2 b hb).trans h
  have ff2 : h2.FunFrames B0 (X.env :: X.outer) := by
    have go : ∀ l : List Env, C ∉ frs l → h1'.FunFrames B0 l → h2.FunFrames B0 l := by
      intro l
      induction l with
      | nil => intro _ _; trivial
      | cons env r ih =>
        rintro hc ⟨k1, ⟨L, o, l2, l3, l4, l5⟩, k6⟩
        have LC : L ≠ C := fun z => hc (List.mem_filterMap.mpr ⟨env, List.mem_cons_self, by rw [l2, z]⟩)
        refine ⟨k1, ⟨L, o, l2, l3, k2 _ LC _ l4, l5⟩, ih (fun z => hc ?_) k6⟩
        obtain ⟨env', h1, h2⟩ := List.mem_filterMap.mp z
        exact List.mem_filterMap.mpr ⟨env', List.mem_cons_of_mem _ h1, h2⟩
    exact go _ (by rw [← hs]; exact nfC) j3
  have held2 : HandSPX.HeldZ B0 (X.env :: X.outer) a (Zc cls2 d2) X.env.locals h2 :=
    ⟨fun b o h => k2 b (fun z => by rw [z, B0C] at h; cases h) o (j1 b o h), j2, ff2, oe4, vs4, T4, oT4, ts4, k2 _ a4 _ he4, hz4, hd4, h14, hnT4, hTe4, k2 _ T4C _ hT4, hdT4, h34⟩
  unfold PySem.passOn
  refine wpAny_bind (wpAny_field (k2 _ a4 _ he4) hd4 h14 ?_)
  rw [if_neg (show ¬ ((Value.ref T4 == Value.none) = true) from by simp)]
  have fin : wpAny (model X.prog X.w) X.A (setFlight (.ref a) ce.frame) (fun _ s4 => wpAny (model X.prog X.w) X.A (throw (.ref a) : Sem Value) (fun _ _ => False) X.xe s4) X.xe { s' with heap := h2 } := by
    rw [hce, hf]
    refine HandSPX.setFlight_onZ held2 fun h5 hh5 up5 => wpAny_throw (tk _ _ ?_)
    refine ⟨a, B0, sI, pins2, σ2, H2, cls2, d2, rfl, I2, nb, fun b o h hnf => ?_, .inr (.inr (by rw [hs]; exact hh5)), na2, os2, ag2, w2⟩
    obtain ⟨s1, u1⟩ := up b o h hnf
    obtain ⟨z, u1'⟩ := qS _ _ u1
    obtain ⟨s2, u2⟩ := up1 b _ u1' hnf
    obtain ⟨s3, u3⟩ := up5 b _ (k2 b z _ u2) hnf
    exact ⟨s3, u3⟩
  first
    | exact wpAny_bind (wpAny_pure (wpAny_bind fin))
    | exact wpAny_bind fin
/-- what is wanted behind a comprehension's block, its own environment known -/
def cpX (M : Model) (A : Around) (E : Value → Shared → Prop) (use : Option (Value → Sem Unit)) (Q : Value → Shared → Prop) (acc : Value) (ce : Env) (r : Result) (s' : Shared) : Prop :=
  match r with
  | .ok _ => compPost M A E use Q acc ce.locals r s'
  | .error x => ∃ m, s'.heap.Ns ce.locals m ∧ ∀ h', Heap.SameBut ce.locals s'.heap h' → wpAny M A (passOn "comprehension.variables-let-go" x ce : Sem Value) (fun _ _ => False) E { s' with heap := h' }
theorem comp_freeX {M : Model} {A : Around} {E : Value → Shared → Prop} {s : Shared} {env : Env} {e : Expr} {scope : Scope} {pos : Pos} {newAcc first : Sem Value} {g : Comprehension} {gs : List Comprehension} {cl : List (Str × Addr)} {use : Option (Value → Sem Unit)} {Q : Value → Shared → Prop}
    (hcl : clausesOf e = g :: gs) (hs : ∀ x, foldedSetIterable g.iter env x = pure x) (hclos : closureFor scope env = pure cl) (hkind : scope.kind = .function) (hnames : ∀ x ∈ scope.names, x.2 = .local → scope.names.lookup x.1 = some .local)
    (h : wpAny M A first (fun x s₁ => wpAny M A (pyIter x) (fun it s₂ => wpAny M A newAcc (fun acc s₃ => wpAny M A (newFunctionEnv scope env.globals cl [] env.qual none .none (some env)) (fun cenv s₄ =>
      codeAny M A (.compStart e 0 it acc { cenv with scope := relabel scope env }) (cpX M A E use Q acc { cenv with scope := relabel scope env }) s₄) E s₃) E s₂) E s₁) E s) :
    wpAny M A (comprehension e scope env pos newAcc false first use) Q E s := by
  unfold comprehension
  rw [hclos, hcl]
  have up : ∀ {α : Type} {t : Sem α} {P P' : α → Shared → Prop} {s : Shared}, wpAny M A t P E s → (∀ a s, P a s → P' a s) → wpAny M A t P' E s := fun h k => wpAny_mono h k fun _ _ z => z
  refine wpAny_bind (up h fun x s₁ h₁ => wpAny_bind (wpAny_standAt (wpAny_bind (wpAny_of_eq (hs x) (wpAny_bind (wpAny_holding (up h₁ fun it s₂ h₂ => wpAny_standIf (wpAny_bind (up h₂ fun acc s₃ h₃ => wpAny_bind (wpAny_pure (wpAny_bind (up h₃ fun cenv s₄ h₄ => ?_))))))))))))
  dsimp only
  have hv : ∀ x ∈ (scope.names.filter fun x => (x.2 == .local || x.2 == .cell) && x.1 != (".0" : Str)).reverse, x.2 = .local → Env.kindOf { cenv with scope := relabel scope env } x.1 = some .local := fun x hx hl => lookup_relabel_local (hnames x (List.mem_filter.mp (List.mem_reverse.mp hx)).1 hl)
  refine wpAny_holding (wpAny_bind (wpAny_attempt (wpAny_holding (wpAny_run (codeAny_mono h₄ fun r s' hr => ?_)))))
  cases r with
  | ok f =>
    cases use with
    | none =>
      obtain ⟨m, hn, hq⟩ := hr
      exact wpAny_bind (wpAny_holding (wpAny_comp_letGo (cenv := { cenv with scope := relabel scope env }) hkind _ s' m hv hn fun h' m' _ hs' => wpAny_pure (hq h' hs')))
    | some u =>
      refine wpAny_bind (wpAny_rule (wpAny_bind (wpAny_holding (up hr fun _ s2 hr' => ?_))))
      obtain ⟨m, hn, hq⟩ := hr'
      refine wpAny_bind (wpAny_comp_letGo (cenv := { cenv with scope := relabel scope env }) hkind _ s2 m (fun x hx hl => ?_) hn fun h' m' _ hs' => wpAny_pure (hq h' hs'))
      exact (List.mem_append.mp hx).elim (fun z => hv x (List.mem_of_mem_drop z) hl) (fun z => hv x (List.mem_of_mem_take z) hl)
  | error x =>
    obtain ⟨m, hn, hq⟩ := hr
    exact wpAny_bind (wpAny_holding (wpAny_comp_letGo (cenv := { cenv with scope := relabel scope env }) hkind _ s' m hv hn fun h' m' _ hs' => up (hq h' hs') (fun _ _ f => f.elim)))
/-- a block that lets exceptions out -/
abbrev blx (X : Cx) (s : Shared) (H : Hp) (scope : Scope) (cenv : Env) (fp : List Addr) (xe : Value → Shared → Prop) : Cx := { X.blk s H scope cenv fp with xe := xe }
theorem _root_.L2.Inv.toBlx {X : Cx} {s0 : Shared} {H0 : Hp} {scope : Scope} {ce : Env} {fp : List Addr} {xe : Value → Shared → Prop} {pins : List (Addr × Obj)} {σ : L2.St} {H : Hp} {s : Shared} (I : Inv (X.blk s0 H0 scope ce fp) pins σ H s) : Inv (EL.blx X s0 H0 scope ce fp xe) pins σ H s :=
  ⟨⟨I.ok.mod, I.ok.kind, I.ok.glob, I.ok.blt, I.ok.above, I.ok.inj, I.ok.has, I.ok.cab, I.ok.hd, I.ok.frames, I.ok.stk, I.ok.exf, I.ok.bs, I.ok.bsz, I.ok.noex, I.ok.exfs, I.ok.funs, I.ok.frf⟩, I.os, I.bare, I.base, I.loc, I.cell, I.free, I.freeC, I.pin, I.hok, I.len⟩
theorem _root_.L2.Inv.ofBlx {X : Cx} {s0 : Shared} {H0 : Hp} {scope : Scope} {ce : Env} {fp : List Addr} {xe : Value → Shared → Prop} {pins : List (Addr × Obj)} {σ : L2.St} {H : Hp} {s : Shared} (I : Inv (EL.blx X s0 H0 scope ce fp xe) pins σ H s) : Inv (X.blk s0 H0 scope ce fp) pins σ H s :=
  ⟨⟨I.ok.mod, I.ok.kind, I.ok.glob, I.ok.blt, I.ok.above, I.ok.inj, I.ok.has, I.ok.cab, I.ok.hd, I.ok.frames, I.ok.stk, I.ok.exf, I.ok.bs, I.ok.bsz, I.ok.noex, I.ok.exfs, I.ok.funs, I.ok.frf⟩, I.os, I.bare, I.base, I.loc, I.cell, I.free, I.freeC, I.pin, I.hok, I.len⟩
section
variable {X : Cx}
/-- [elt for target in iter if ..] whose elt may raise: te by what is let out -/
abbrev LcStep (g : TG) (tt : TT) (te : TE) (vs : List Nat) (σ : L2.St) (D : Addr) (Nx : Hp → Prop) (x : V) (H : Hp) : Prop := g x (wipe σ vs) H fun σ2 H2 => wipe σ2 vs = wipe σ vs ∧ tt σ2 H2 fun b H3 =>
  if b = true then te σ2 H3 fun y H4 => ∃ acc, H4 D = some (.lst acc) ∧ acc.length < sizeLine ∧ Nx (upd H4 D (.lst (acc ++ [y]))) else Nx H3
def tLcX (W : WX) (wi : TI) (g : TG) (tt : TT) (te : XK → TE) (vs : List Nat) : TE := fun σ H Q => wi σ H fun J H1 => ∀ D, H1 D = none → ∃ V : Nat → Nat → Hp → Prop, (∃ m, V 0 m (upd H1 D (.lst []))) ∧ ∀ i m H, V i m H →
  (J.stop i H ∧ Q (.ref D) H) ∨ (J.go i H ∧ ∃ Nx : Hp → Prop, (∀ H', Nx H' → ∃ m', m' < m ∧ V (i + 1) m' H') ∧ ∀ x H', J.yld i H x H' → LcStep g tt (te (WE W σ)) vs σ D Nx x H')
theorem lcX_core {pins : List (Addr × Obj)} {s : Shared} {σ : L2.St} {H : Hp} {Q : VK} {W : WX} {elt tg iter : Expr} {ifs : List Expr} {scope : Scope} {own : List (Str × Nat)} {pos pos' : Pos} {wi : TI} {g : TG} {tt : TT} {te : XK → TE} {use : Option (Value → Sem Unit)} {Qf : Value → Shared → Prop}
    (tk : Takes X W) (hst : X.stack = X.env :: X.outer) (hfm : X.env.frame = some X.env.locals) (hc : X.calm = true) (hN : X.N.Nodup) (I : Inv X pins σ H s) (hi : PI X tg iter wi) (ok : BlkOk X.N X.env.scope scope own)
    (hg : ∀ (s : Shared) (H : Hp) (C : Addr) (cl : List (Str × Addr)) (fp : List Addr), PG (X.blk s H scope (compEnvC scope cl C X.env) fp) tg g) (ht : ∀ (s : Shared) (H : Hp) (C : Addr) (cl : List (Str × Addr)) (fp : List Addr), PTs (X.blk s H scope (compEnvC scope cl C X.env) fp) ifs tt)
    (he : ∀ (s : Shared) (H : Hp) (C : Addr) (cl : List (Str × Addr)) (fp : List Addr) (xe : Value → Shared → Prop) (E : XK), (∀ σ', PassesAt (L2.CX X.prog X.w) (EL.blx X s H scope (compEnvC scope cl C X.env) fp xe) σ' E) → PE (EL.blx X s H scope (compEnvC scope cl C X.env) fp xe) elt (te E)) (hs : ∀ x, foldedSetIterable iter X.env x = pure x)
    (h : tLcX W wi g tt te (own.map (·.2)) σ H Q)
    (hRR : ∀ D C s' m H', Inv X pins σ H' s' → Q (.ref D) H' → s'.heap.Ns C m → FpOk X pins H' C → compPost (model X.prog X.w) X.A X.xe use Qf (.ref D) C (.ok .next) s') :
    wpAny (model X.prog X.w) X.A (comprehension (.ListComp elt [⟨tg, iter, ifs, 0⟩] scope pos) scope X.env pos' (newList []) false (eval iter X.env) use) Qf X.xe s := by
  have cl : ∀ y ∈ scope.names, y.2 = .free → ∃ c, X.env.cells.lookup y.1 = some c := fun y hy e => (ok.free y hy e).elim (fun k => I.ok.has _ (.inl k)) (fun k => I.ok.has _ (.inr k))
  refine comp_freeX (use := use) rfl hs (closure_ok cl) ok.kind (fun y hy e => by rw [ok.uniq y hy, e]) (thn (hi.run pins s σ H _ I h) fun xv s1 hx => thn hx fun itv s2 h2 => ?_)
  obtain ⟨it, fp, tn, J, H2, e, I2, T, st2, f2, q⟩ := h2
  subst e
  refine wpAny_newObj_type (newEnv_comp ?_)
  generalize hD : s2.heap.objs.size = D
  obtain ⟨V, ⟨m0, w0⟩, turn⟩ := q D (I2.hok.fresh (Nat.le_of_eq hD))
  obtain ⟨s3, hs3⟩ : ∃ s3 : Shared, ({ s2 with heap := s2.heap.push { cls := .type "list", data := .seq ([] : List Value).toArray } } : Shared) = s3 := ⟨_, rfl⟩
  have hh3 : s3.heap = s2.heap.push { cls := .type "list", data := .seq ([] : List Value).toArray } := by rw [← hs3]
  obtain ⟨H3, hH3⟩ : ∃ H3, upd H2 D (.lst []) = H3 := ⟨_, rfl⟩
  have I3 : Inv X pins σ H3 s3 := by
    rw [← hs3, ← hH3]
    refine I2.laid (t' := s2.toks) (fun b o e => Heap.get?_push_of_some _ e) (Nat.le_of_eq hD) ?_
    rw [← hD]
    exact ⟨Nat.zero_le _, [], 0, .nil, Heap.get?_push_size _ rfl⟩
  rw [hH3] at w0
  have lt2 : ∀ b ∈ fp, b < s2.heap.objs.size := fun b hb => let ⟨o, e, _⟩ := T.obj _ _ st2 b hb; Heap.lt_size e
  have f3 : ∀ b ∈ fp, FpOk X pins H3 b ∧ b < s3.heap.objs.size := fun b hb => by
    refine ⟨⟨?_, (f2 b hb).2⟩, by rw [hh3, Heap.size_push]; exact Nat.lt_succ_of_lt (lt2 b hb)⟩
    rw [← hH3, upd_ne (by rw [← hD]; exact Nat.ne_of_lt (lt2 b hb))]
    exact (f2 b hb).1
  have I4 := block_start I3 ok hN f3
  rw [hs3]
  show codeAny _ _ (.compStart (.ListComp elt [⟨tg, iter, ifs, 0⟩] scope pos) 0 (.ref it) (.ref D) (compEnvC scope (cellsFrom (s3.heap.objs.size + 1) scope.names (cloFrom X.env.cells scope.names [])) s3.heap.objs.size X.env)) (cpX (model X.prog X.w) X.A X.xe use Qf (.ref D) (compEnvC scope (cellsFrom (s3.heap.objs.size + 1) scope.names (cloFrom X.env.cells scope.names [])) s3.heap.objs.size X.env)) { s3 with heap := pushCells (s3.heap.push { cls := .type "dict", data := .dict #[] }) scope.names }
  have pg := hg s3 H3 s3.heap.objs.size (cellsFrom (s3.heap.objs.size + 1) scope.names (cloFrom X.env.cells scope.names [])) fp
  have pt := ht s3 H3 s3.heap.objs.size (cellsFrom (s3.heap.objs.size + 1) scope.names (cloFrom X.env.cells scope.names [])) fp
  have pe0 := he s3 H3 s3.heap.objs.size (cellsFrom (s3.heap.objs.size + 1) scope.names (cloFrom X.env.cells scope.names [])) fp
  have cF : (compEnvC scope (cellsFrom (s3.heap.objs.size + 1) scope.names (cloFrom X.env.cells scope.names [])) s3.heap.objs.size X.env).frame = X.env.frame := rfl
  generalize hce : compEnvC scope (cellsFrom (s3.heap.objs.size + 1) scope.names (cloFrom X.env.cells scope.names [])) s3.heap.objs.size X.env = ce at I4 pg pt pe0 cF ⊢
  have cL : ce.locals = s3.heap.objs.size := by rw [← hce]; rfl
  have st4 : tn 0 (pushCells (s3.heap.push { cls := .type "dict", data := .dict #[] }) scope.names) := T.keep _ _ _ st2 fun b _ o e => pushCells_keeps _ _ _ _ (Heap.get?_push_of_some _ (by rw [hh3]; exact Heap.get?_push_of_some _ e))
  generalize hs4 : ({ s3 with heap := pushCells (s3.heap.push { cls := .type "dict", data := .dict #[] }) scope.names } : Shared) = s4 at I4 ⊢
  have st4' : tn 0 s4.heap := by rw [← hs4]; exact st4
  have stat : ∀ {σ' : L2.St} {H' : Hp} {s' : Shared}, Inv (X.blk s3 H3 scope ce fp) [] σ' H' s' → (∀ b ∈ fp, H' b = none) → ∀ b ∈ fp, FpOk (X.blk s3 H3 scope ce fp) [] H' b := fun I' hn b hb =>
    ⟨hn b hb, (I'.ok.exf b hb).1, I'.ok.exfs b hb, .inl hb, fun x c e => (I'.ok.exf b hb).2 x c e, fun p hp => by cases hp⟩
  -- the def's own view of a state within the block
  have back : ∀ {pins' : List (Addr × Obj)} {σ' : L2.St} {H' : Hp} {s' : Shared}, Inv (X.blk s3 H3 scope ce fp) pins' σ' H' s' → Inv X pins σ H' s' ∧ (∃ m, s'.heap.Ns ce.locals m) ∧ FpOk X pins H' ce.locals := fun {pins' σ' H' s'} I6 => by
    have nC : H' s3.heap.objs.size = none := by rw [← cL]; exact I6.free
    obtain ⟨m, hn, _⟩ := I6.loc
    exact ⟨I3.call' (ch := fp) I6.os I6.base I6.hok I6.bare fun b hb => ⟨(f3 b hb).1.2.2.2.1, (f3 b hb).1.2.1, (f3 b hb).1.2.2.2.2.1, (f3 b hb).1.2.2.2.2.2⟩, ⟨m, hn⟩, by rw [cL]; exact I3.fpOk (Nat.le_refl _) nC⟩
  have pe := pe0 (notedBy (model X.prog X.w) X.A ce fun e s' => cpX (model X.prog X.w) X.A X.xe use Qf (.ref D) ce (.error e) s') (WE W σ) (fun σ' pins' H' s' e s2' I' c => by
    obtain ⟨J1, ⟨m, hn⟩, J2⟩ := back I'.ofBlx
    exact comp_leave tk hst hfm J1 hn J2 (fun _ _ _ z => z) c cF)
  have loop : codeAny (model X.prog X.w) X.A (.compLoop (.ListComp elt [⟨tg, iter, ifs, 0⟩] scope pos) 0 (.ref it) (.ref D) ce) (cpX (model X.prog X.w) X.A X.xe use Qf (.ref D) ce) s4 := by
    refine compLoop_any (fun n s' => ∃ i H', Inv (X.blk s3 H3 scope ce fp) [] (wipe σ (own.map (·.2))) H' s' ∧ tn i s'.heap ∧ (∀ b ∈ fp, H' b = none) ∧ V i n H') ?_ m0 ⟨0, H3, I4, st4', fun b hb => (f3 b hb).1.1, w0⟩
    rintro n s5 ⟨i, H5, I5, st5, n5, w5⟩
    rcases turn i n H5 w5 with ⟨stop, qq⟩ | ⟨go, Nx, hNx, step⟩
    · refine thnF (T.done (X.blk s3 H3 scope ce fp) rfl rfl rfl hc i [] s5 _ H5 (fun _ _ => False) I5 (stat I5 n5) st5 stop) fun r s6 ⟨hr, I6⟩ => ?_
      subst hr
      obtain ⟨J1, ⟨m, hn⟩, J2⟩ := back I6
      exact hRR D ce.locals s6 m H5 J1 qq hn J2
    · refine thnF (T.item (X.blk s3 H3 scope ce fp) rfl rfl rfl hc i [] s5 _ H5 (fun _ _ => False) I5 (stat I5 n5) st5 go) fun r s6 ⟨u, hr, h6⟩ => ?_
      subst hr
      refine thnF h6 fun _ s7 ⟨x, H7, I7, r7, y7, st7, n7⟩ => ?_
      refine thnF (pg.run _ s7 _ H7 x u _ (I7.pinned (stat I7 n7) (T.obj _ _ st7)) r7 (step x H7 y7)) fun _ s8 ⟨σ8, H8, I8, hw8, q8⟩ => ?_
      refine thnF (pt.run _ s8 σ8 H8 _ I8 q8) fun b s9 ⟨H9, I9, q9⟩ => ?_
      have fin : ∀ {s' : Shared} {H' : Hp}, Inv (X.blk s3 H3 scope ce fp) ([] ++ pinsAt fp s7.heap) σ8 H' s' → Nx H' → ∃ m, m < n ∧ ∃ i H', Inv (X.blk s3 H3 scope ce fp) [] (wipe σ (own.map (·.2))) H' s' ∧ tn i s'.heap ∧ (∀ b ∈ fp, H' b = none) ∧ V i m H' := fun {s' H'} I' nx => by
        obtain ⟨m', hm, w'⟩ := hNx H' nx
        have pin' : ∀ b ∈ fp, ∀ o, s7.heap.get? b = some o → s'.heap.get? b = some o ∧ H' b = none := fun b hb o e =>
          let z := I'.pin (b, o) (List.mem_append_right _ (List.mem_append_right _ (mem_pinsAt hb e)))
          ⟨z.1, z.2.1⟩
        refine ⟨m', hm, i + 1, H', (I'.unpinned (pins := [])).weak (by rw [← hw8, wipe_length]) (fun j v e => (wipe_some (by rw [hw8]; exact e)).1), T.keep _ _ _ st7 fun b hb o e => (pin' b hb o e).1, fun b hb => ?_, w'⟩
        obtain ⟨o, e, _⟩ := T.obj _ _ st7 b hb
        exact (pin' b hb o e).2
      cases b with
      | false => exact fin I9 q9
      | true =>
        refine thn (pe.run _ s9 σ8 H9 _ I9.toBlx q9) fun z s10 ⟨yv, H10, I10, r10, acc, hD10, hz10, nx⟩ => ?_
        exact app_ok (X := X.blk s3 H3 scope ce fp) I10.ofBlx hD10 hz10 r10 fun s11 I11 => fin I11 nx
  exact codeAny_compStart_list loop (T.self X.A 0 _ _ _ st4' loop)
theorem pe_lcX {W : WX} {elt tg iter : Expr} {ifs : List Expr} {scope : Scope} {own : List (Str × Nat)} {pos : Pos} {wi : TI} {g : TG} {tt : TT} {te : XK → TE} (tk : Takes X W) (hst : X.stack = X.env :: X.outer) (hfm : X.env.frame = some X.env.locals) (hc : X.calm = true) (hN : X.N.Nodup) (hi : PI X tg iter wi) (ok : BlkOk X.N X.env.scope scope own)
    (hg : ∀ (s : Shared) (H : Hp) (C : Addr) (cl : List (Str × Addr)) (fp : List Addr), PG (X.blk s H scope (compEnvC scope cl C X.env) fp) tg g) (ht : ∀ (s : Shared) (H : Hp) (C : Addr) (cl : List (Str × Addr)) (fp : List Addr), PTs (X.blk s H scope (compEnvC scope cl C X.env) fp) ifs tt)
    (he : ∀ (s : Shared) (H : Hp) (C : Addr) (cl : List (Str × Addr)) (fp : List Addr) (xe : Value → Shared → Prop) (E : XK), (∀ σ', PassesAt (L2.CX X.prog X.w) (EL.blx X s H scope (compEnvC scope cl C X.env) fp xe) σ' E) → PE (EL.blx X s H scope (compEnvC scope cl C X.env) fp xe) elt (te E)) (hs : ∀ x, foldedSetIterable iter X.env x = pure x := by intro _; rfl) :
    PE X (.ListComp elt [⟨tg, iter, ifs, 0⟩] scope pos) (tLcX W wi g tt te (own.map (·.2))) := by
  refine ⟨fun pins s σ H Q I h => ?_⟩
  rw [arm_eval_ListComp]
  refine lcX_core tk hst hfm hc hN I hi ok hg ht he hs h fun D C s' m H' I' q hn f => ⟨m, hn, fun h2 sb => ?_⟩
  obtain ⟨f0, f1, f2, f3, f4, f5⟩ := f
  exact ⟨.ref D, H', I'.turned (t' := s'.toks) (fun b o hb e => (sb.2 b hb).trans e) f0 f1 f3 f4 f5, rfl, q⟩
theorem ps_setLcX {W : WX} {i : Nat} {y : Str} {py : Pos} {elt tg iter : Expr} {ifs : List Expr} {scope : Scope} {own : List (Str × Nat)} {pos spos : Pos} {wi : TI} {g : TG} {tt : TT} {te : XK → TE} (tk : Takes X W) (hst : X.stack = X.env :: X.outer) (hfm : X.env.frame = some X.env.locals) (hc : X.calm = true) (hN : X.N.Nodup) (hy : X.N[i]? = some y) (hyl : X.env.scope.names.lookup y = some .local)
    (hsw : swapsWith (.ListComp elt [⟨tg, iter, ifs, 0⟩] scope pos) (some (.Name y py)) spos.line X.env = pure true) (hi : PI X tg iter wi) (ok : BlkOk X.N X.env.scope scope own)
    (hg : ∀ (s : Shared) (H : Hp) (C : Addr) (cl : List (Str × Addr)) (fp : List Addr), PG (X.blk s H scope (compEnvC scope cl C X.env) fp) tg g) (ht : ∀ (s : Shared) (H : Hp) (C : Addr) (cl : List (Str × Addr)) (fp : List Addr), PTs (X.blk s H scope (compEnvC scope cl C X.env) fp) ifs tt)
    (he : ∀ (s : Shared) (H : Hp) (C : Addr) (cl : List (Str × Addr)) (fp : List Addr) (xe : Value → Shared → Prop) (E : XK), (∀ σ', PassesAt (L2.CX X.prog X.w) (EL.blx X s H scope (compEnvC scope cl C X.env) fp xe) σ' E) → PE (EL.blx X s H scope (compEnvC scope cl C X.env) fp xe) elt (te E)) (hs : ∀ x, foldedSetIterable iter X.env x = pure x := by intro _; rfl) :
    PS X (.Assign [.Name y py] (.ListComp elt [⟨tg, iter, ifs, 0⟩] scope pos) spos) (tAsg (tLcX W wi g tt te (own.map (·.2))) (gName i)) := by
  refine ⟨fun pins s σ H D I h => ?_⟩
  rw [exec_Assign_Name_used _ _ _ _ hsw]
  refine wpAny_bind (wpAny_standAt (wpAny_bind ?_))
  show wpAny _ X.A (do let _ ← comprehension (.ListComp elt [⟨tg, iter, ifs, 0⟩] scope pos) scope X.env (firstIterPos [⟨tg, iter, ifs, 0⟩] pos) (newList []) false (eval iter X.env) (some (assign (.Name y py) X.env))) _ _ s
  have h' : tLcX W wi g tt te (own.map (·.2)) σ H (fun x H1 => gName i x σ H1 D.nx) := h
  refine wpAny_bind (thn (lcX_core (Qf := fun _ s' => SP X pins D .next s') tk hst hfm hc hN I hi ok hg ht he hs h' fun L C s' m H' I' q hn f => ?_) fun _ s' hq => wpAny_pure (wpAny_pure hq))
  obtain ⟨f0, f1, f2, f3, f4, f5⟩ := f
  refine wpAny_assign_Name (store_ok2 (v := V.ref L) I' hN hy (.inl hyl) rfl (fun s2 I2 ⟨a, sb, ha⟩ => ?_) (.inr hyl))
  have haC : C ≠ a := ha.elim (fun z => by rw [z]; exact f1) (fun z e => f4 y a z e.symm)
  exact ⟨m, hn.sameBut sb haC, fun h3 sb3 => ⟨_, H', I2.turned (t' := s2.toks) (fun b o hb e => (sb3.2 b hb).trans e) f0 f1 f3 f4 f5, q⟩⟩
theorem lcX_it {J : It} {n : Nat} {G : Hp → Prop} {Y : Nat → Hp → V → Hp → Prop} (w : L2.Walk J n G Y) {g : TG} {tt : TT} {te : TE} {vs : List Nat} {σ : L2.St} {H1 : Hp} {D : Addr} {Qd : Hp → Prop} (Pv : Nat → Hp → Prop) (h0 : Pv 0 (upd H1 D (.lst []))) (hG : ∀ i H, i ≤ n → Pv i H → G H)
    (hs : ∀ i x H H', i < n → Pv i H → Y i H x H' → LcStep g tt te vs σ D (Pv (i + 1)) x H') (hd : ∀ H, Pv n H → Qd H) :
    ∃ V : Nat → Nat → Hp → Prop, (∃ m, V 0 m (upd H1 D (.lst []))) ∧ ∀ i m H, V i m H → (J.stop i H ∧ Qd H) ∨ (J.go i H ∧ ∃ Nx : Hp → Prop, (∀ H', Nx H' → ∃ m', m' < m ∧ V (i + 1) m' H') ∧ ∀ x H', J.yld i H x H' → LcStep g tt te vs σ D Nx x H') := by
  refine ⟨fun i m H => m + i = n ∧ Pv i H, ⟨n, rfl, h0⟩, fun i m H ⟨hm, p⟩ => ?_⟩
  have q := hG i H (by omega) p
  cases m with
  | zero =>
    have e : i = n := by omega
    subst e
    exact .inl ⟨w.stops H q, hd H p⟩
  | succ m => exact .inr ⟨w.goes i H (by omega) q, Pv (i + 1), fun H' p' => ⟨m, Nat.lt_succ_self m, by omega, p'⟩, fun x H' y => hs i x H H' (by omega) p (w.yields i H x H' (by omega) q y)⟩
/-- a call of a def that may raise, what it lets out being taken as hx says -/
theorem clP {CX : CXT} {k : Nat} {x : Str} {sp : Sp} {E : XK} {e : Expr} {es : List Expr} {t : TA} {p pos : Pos} (hx : ∀ σ, PassesAt CX X σ E) (D : Dn X.prog X.w X.K X.mg X.base CX k x sp) (hr : Room k X.A) (ha : PA X (e :: es) t) (hg : Gl X x := by rfl)
    (hdb : (x == ("__debug__" : Str)) = false := by decide) (he : starEach (e :: es) X.env = (false, eval e X.env) :: starEach es X.env := by rfl) (hpl : (backTo pos (starEach es X.env)).any (·.1) = false := by rfl) :
    PE X (.Call (.Name x p) (e :: es) [] pos) (tCallS sp (fun _ => E) t) := pe_fn D.r hr hg D.g D.kp hx ha hdb he hpl
end
/-! ### an instance called, what it lets out by the caller's slots -/
def tCallOE (C : Addr) (sp : Sp) (E : L2.St → XK) (tf : TE) (t : TA) : TE := fun σ H Q => tf σ H fun y H1 => ∃ a, y = V.ref a ∧ t σ H1 fun vs H2 => (∃ dx fs, H2 a = some (.ins C dx fs)) ∧ sp (V.ref a :: vs) H2 Q (E σ)
theorem pe_callOE {X : Cx} {CX : CXT} {k : Nat} {C g : Addr} {sp : Sp} {E : L2.St → XK} {fe e : Expr} {es : List Expr} {tf : TE} {t : TA} {pos : Pos} (hf : PE X fe tf) (c : StX.CallO X.K C g) (F : FnR X.prog X.w X.K X.mg X.base CX k g sp) (hr : Room k X.A) (hx : ∀ σ, PassesAt CX X σ (E σ)) (ha : PA X (e :: es) t)
    (ht : eval (.Call fe (e :: es) [] pos) X.env = (do callWith pos (← eval fe X.env) [] (backTo pos (starEach (e :: es) X.env)) (backToKw pos (keywordEach [] X.env))) := by rfl)
    (he : starEach (e :: es) X.env = (false, eval e X.env) :: starEach es X.env := by rfl) (hpl : (backTo pos (starEach es X.env)).any (·.1) = false := by rfl) : PE X (.Call fe (e :: es) [] pos) (tCallOE C sp E tf t) := by
  refine ⟨fun pins s σ H Q I h => ?_⟩
  refine Call_ (thn (hf.run pins s σ H _ I h) fun u s1 ⟨y, H1, I1, ry, a, ey, q⟩ => ?_) ht
  subst ey
  cases (show u = Value.ref a from ry)
  refine StX.callO_with (thn (ha.run pos pins s1 σ H1 _ I1 q) fun us s2 ⟨vs, H2, I2, r, hi, q2⟩ => ?_) he hpl
  obtain ⟨ox, od, J, hd⟩ := StX.insC_at (C := C) I2 (.inr hi)
  refine ⟨⟨C, ox, od, J, hd⟩, wpAny_call (PySem.W.kco_code I2.kIn J hd c.at_ c.fn c.fi (codeAny_mono (F X.A X.stack s2 H2 (.ref a :: us) (.ref a :: vs) Q (E σ) hr I2.env0 (.cons rfl r) q2) fun r s' hq => ?_))⟩
  cases r with
  | error e => exact hx σ pins _ s2 e s' I2 hq
  | ok fl =>
    cases fl with
    | ret u => exact I2.after hq
    | next => exact False.elim hq
    | brk => exact False.elim hq
    | cont => exact False.elim hq
def callOB (K : PySem.W.Frag) (C : Addr) : Bool := eqO (PySem.W.findIn K (.ref C) "__call__") (some (some (.ref (ma K C "__call__")))) && (PySem.W.isFn K (.ref (ma K C "__call__")) && PySem.W.fnIn K (ma K C "__call__"))
theorem callOB_ok {K : PySem.W.Frag} {C : Addr} (h : callOB K C = true) : StX.CallO K C (ma K C "__call__") := by
  obtain ⟨h1, h⟩ := ba h
  obtain ⟨h2, h3⟩ := ba h
  exact ⟨eqO_ok h1, h2, h3⟩
/-! ### facts of dunders; the operators of two instances of one class -/
def dunB (K : PySem.W.Frag) (C : Addr) (m : Str) : Bool := eqO (PySem.W.findIn K (.ref C) m) (some (some (.ref (ma K C m)))) && PySem.W.isFn K (.ref (ma K C m))
theorem dunB_ok {K : PySem.W.Frag} {C : Addr} {m : Str} (h : dunB K C m = true) : PySem.W.findIn K (.ref C) m = some (some (.ref (ma K C m))) ∧ PySem.W.isFn K (.ref (ma K C m)) = true := by
  obtain ⟨h1, h2⟩ := ba h
  exact ⟨eqO_ok h1, h2⟩
/-! ### a dict of the top with text keys -/
def nsStrB (K : PySem.W.Frag) (d : Addr) (z y : Str) : Bool := match PySem.W.nsIn K d z with
  | some (some (.str x _)) => decide (x = y)
  | _ => false
theorem nsStrB_ok {K : PySem.W.Frag} {d : Addr} {z y : Str} (h : nsStrB K d z y = true) : ∃ u, PySem.W.nsIn K d z = some (some u) ∧ RelV (.str y) u := by
  unfold nsStrB at h
  split at h
  · rename_i x t q
    cases of_decide_eq_true h
    exact ⟨_, q, t, rfl⟩
  · cases h
theorem kdct {K : PySem.W.Frag} {w : World} {a : Addr} {z y : Str} (D : ∃ es n, KDict K w a es n) (h : ∃ u, PySem.W.nsIn K a z = some (some u) ∧ RelV (.str y) u) : KDct K w a z (.str y) := by
  obtain ⟨es, n, D⟩ := D
  obtain ⟨u, h1, h2⟩ := h
  exact ⟨es, n, u, D.at_, D.lit, h1, h2⟩
abbrev AlY : Type := AlX × List (Option (List (Option (Str × Int))))
def obsY (fa : List Fa) (fn : List DefE) (xn : List DefX) (ts : List Tab) (ex : PySem.W.Frag → Bool) (K : PySem.W.Frag) : AlY := (obsX fa fn xn ex K, ts.map fun t => dicW K (t.1 K))
def obsYG (n : Nat) (fa : List Fa) (fn : List DefE) (xn : List DefX) (ts : List Tab) (ex : PySem.W.Frag → Bool) (g : Addr → Option Obj) : AlY := obsY fa fn xn ts ex (frG g (He5.asA g n))
def valY (fn : List DefE) (xn : List DefX) (ts : List Tab) (w : World) : AlY := (valX fn xn, ts.map fun t => some (keysIn w.params t.2))
def SaysY (fa : List Fa) (fn : List DefE) (xn : List DefX) (ts : List Tab) (ex : PySem.W.Frag → Bool) (w : World) (K : PySem.W.Frag) : Prop := obsY fa fn xn ts ex K = valY fn xn ts w
def hookY (n : Nat) (fa : List Fa) (fn : List DefE) (xn : List DefX) (ts : List Tab) (ex : PySem.W.Frag → Bool) : PySem.W.Hook where
  α := AlY
  obs := fun s => obsYG n fa fn xn ts ex s.heap.get?
  val := fun w => valY fn xn ts w
  says := fun w h => ∃ K : PySem.W.Frag, K.In h ∧ SaysY fa fn xn ts ex w K
  of := fun _ _ e => ⟨_, frG_in, e⟩
  keeps := fun _ _ _ ⟨K, hK, c⟩ k => ⟨K, PySem.W.Frag.In.keeps hK k, c⟩
theorem obsYG_eq {n : Nat} {fa : List Fa} {fn : List DefE} {xn : List DefX} {ts : List Tab} {ex : PySem.W.Frag → Bool} {g : Addr → Option Obj} {s : Shared} (h : ∀ a, g a = s.heap.get? a) : obsYG n fa fn xn ts ex g = (hookY n fa fn xn ts ex).obs s := by
  have e : g = s.heap.get? := funext h
  rw [e] <;> rfl
section
variable {fa : List Fa} {fn : List DefE} {xn : List DefX} {ts : List Tab} {ex : PySem.W.Frag → Bool} {w : World} {K : PySem.W.Frag}
theorem SaysY.x (c : SaysY fa fn xn ts ex w K) : SaysX fa fn xn ex K := congrArg (fun z : AlY => z.1) c
theorem SaysY.tab (c : SaysY fa fn xn ts ex w K) (i : Nat) {t : Tab} (h : ts[i]? = some t := by rfl) : ∃ es n, KDict K w (t.1 K) es n := by
  have e2 : (ts.map fun t => dicW K (t.1 K))[i]? = (ts.map fun t => some (keysIn w.params t.2))[i]? := congrArg (fun z : AlY => z.2[i]?) c
  rw [List.getElem?_map, List.getElem?_map, h] at e2
  exact dicW_ok (Option.some.inj e2)
end
/-! ### lists or tuples -/
theorem PI.or_ {X : Cx} {tg e : Expr} {w1 w2 : TI} (h1 : PI X tg e w1) (h2 : PI X tg e w2) : PI X tg e (fun σ H R => w1 σ H R ∨ w2 σ H R) :=
  ⟨fun pins s σ H R I h => h.elim (fun z => h1.run pins s σ H R I z) (fun z => h2.run pins s σ H R I z)⟩
theorem PE.or_ {X : Cx} {e : Expr} {t1 t2 : TE} (h1 : PE X e t1) (h2 : PE X e t2) : PE X e (fun σ H Q => t1 σ H Q ∨ t2 σ H Q) :=
  ⟨fun pins s σ H Q I h => h.elim (fun z => h1.run pins s σ H Q I z) (fun z => h2.run pins s σ H Q I z)⟩
theorem SqL.new {K : PySem.W.Frag} {H H' : Hp} {S : List Addr} {a : Addr} {xs : List V} (h : SqL K H a xs) (m : Md S H H') (n : ∀ b ∈ S, H b = none) : SqL K H' a xs := by
  rcases h with (h | ⟨o, h⟩) | h
  · exact .inl (.inl (m.out _ _ h fun z => by rw [n a z] at h; cases h))
  · exact .inl (.inr ⟨o, m.out _ _ h fun z => by rw [n a z] at h; cases h⟩)
  · exact .inr h
theorem kit_any2 (K : PySem.W.Frag) (A B : Kd) (d : PyData) : PySem.W.kitAny K (.type (tyn d)) [.type (kdN A), .type (kdN B)] = some (isTy A d || isTy B d) := by
  unfold PySem.W.kitAny
  rw [kit_d K A d]
  cases isTy A d with
  | true => rfl
  | false =>
    show PySem.W.kitAny K (.type (tyn d)) [.type (kdN B)] = _
    unfold PySem.W.kitAny
    rw [kit_d K B d]
    cases isTy B d with
    | true => rfl
    | false => rfl
theorem u65 {k : Nat} {A : Around} (r : Room k A) : A.units + 65 < cLine := by have := r.un; omega
/-- x is True, x is False: x a truth value or None -/
def rIsBN : R2 := fun x y H Q => ∃ b : Bool, y = .bl b ∧ ((x = .non ∧ Q (.bl false) H) ∨ ∃ a : Bool, x = .bl a ∧ Q (.bl (decide (a = b))) H)
theorem op_isBN {X : Cx} : OpR X (compareOp .Is) rIsBN := by
  intro pins s σ H x y v u Q I rx ry h
  obtain ⟨b, rfl, ⟨rfl, q⟩ | ⟨a, rfl, q⟩⟩ := h
  · cases (show v = Value.none from rx)
    cases (show u = Value.bool b from ry)
    exact wpAny_is_other rfl (fun z => nomatch z) ⟨.bl false, H, I, rfl, q⟩
  · exact op_is_bl pins s σ H _ _ v u Q I rx ry ⟨a, b, rfl, rfl, q⟩
end EL
namespace EL
open PySem PySem.Spec PyProof.Rows L2 He TL
/-! ### isinstance of a caught error, with or without a dict, either answer -/
def rIsA (K : PySem.W.Frag) (D : Addr) (cls : Value) (d : Option Addr) (a : Addr) : List V → Hp → VK → Prop := fun xs H Q => cls = .ref D ∧ (d = none ∨ ∃ dd fs, d = some dd ∧ H dd = some (.xd fs)) ∧ rIsE K D a xs H Q
theorem call_isA {X : Cx} {a D : Addr} {oe : Obj} {pn : List (Addr × Obj)} {cls : Value} {d : Option Addr} (C : ExcC X.K D) (hz : Zc cls d oe) (hf : ∃ vs, oe.data = .fields vs) : CallR (X.suite a ((a, oe) :: pn)) (.builtin "isinstance") (rIsA X.K D cls d a) := by
  intro pins s σ H xs us Q I r h
  obtain ⟨rfl, hd, c, cv, b, rfl, hcv, e, q⟩ := h
  cases r with
  | cons rx rr =>
    cases rr with
    | cons rt rr =>
      cases rr
      cases rx
      cases hcv _ rt
      obtain ⟨hget, _⟩ := I.pin (a, oe) (List.mem_append.mpr (.inl List.mem_cons_self))
      obtain ⟨vs, hv⟩ := hf
      have hcl : (PySem.W.clsIn X.K D).isSome = true := by
        obtain ⟨cd, hc, _⟩ := PySem.W.any_some C.hd
        rw [hc]
        rfl
      have J : ∃ od, PySem.W.InstAt s.heap a oe D od := by
        rcases hd with rfl | ⟨dd, fs, rfl, hx⟩
        · refine ⟨none, hget, hz.1, by unfold PySem.W.notCls; rw [hv] <;> rfl, ?_⟩
          rw [hz.2]
          trivial
        · have hx' : ObjOk X.prog X.w H s.heap dd (.xd fs) := I.hok dd _ hx
          obtain ⟨mA, ⟨o, es, ep, ho, _⟩, _⟩ := hx'
          refine ⟨some o, hget, hz.1, by unfold PySem.W.notCls; rw [hv] <;> rfl, ?_⟩
          rw [hz.2]
          exact ho
      obtain ⟨od, J⟩ := J
      exact PySem.W.kia_one (PySem.W.kitx_exc hcl C.hg C.hk C.hs C.ha C.hn C.ht C.hm) I.kIn J e (fun z => nomatch z) fun tk => ⟨.bl b, H, I.kept (t' := tk) fun _ _ z => z, rfl, q⟩
/-! ### x op= y by an own def -/
theorem ip_own {X : Cx} {CX : CXT} {k : Nat} {C g : Addr} {sp : Sp} {E : XK} {op : Operator} (hc : PySem.W.selfFirst X.K C = true) (hs : PySem.W.findIn X.K (.ref C) (PySem.dunderI op.info.2) = some (some (.ref g))) (hf : PySem.W.isFn X.K (.ref g) = true) (F : FnR X.prog X.w X.K X.mg X.base CX k g sp)
    (hr : Room k X.A) (hx : Passes CX X E) : PIp X op (fun x y H Q => ∃ a dx fs, x = .ref a ∧ H a = some (.ins C dx fs) ∧ sp [x, y] H Q E) := by
  intro pins s σ H x y v u Q I rx ry h
  obtain ⟨a, dx, fs, rfl, ha, q⟩ := h
  cases (show v = Value.ref a from rx)
  obtain ⟨ox, od, J, _⟩ := ins_at I ha
  obtain ⟨m, hF⟩ := I.fr
  refine PySem.W.ksp_inplace hF I.ok.mod.kin J hc hs hf ?_
  refine wpAny_mono (wpAny_call (run_fnR (us := [.ref a, u]) (vs := [.ref a, y]) F hr hx I (.cons rfl (.cons ry .nil)) q)) (fun w s' z => ?_) fun _ _ x => x
  obtain ⟨z', H', I', rz, qz⟩ := z
  exact SlX.cmpback rz ⟨z', H', I', rz, qz⟩
/-! ### two dicts whose values are ints -/
def eqDI (ks ls : List (Key × Int)) : Bool := ks.all fun p => decide (valV (ls.map fun q => (q.1, V.int q.2)) p.1 = some (.int p.2))
abbrev dI (ks : List (Key × Int)) : List (Key × V) := ks.map fun q => (q.1, V.int q.2)
theorem hits_int {A : Around} {s : Shared} {ls : List (Key × Int)} {vb : List (Key × Value)} (rb : KV (dI ls) vb) : ∀ {ks : List (Key × Int)} {va : List (Key × Value)}, KV (dI ks) va → PySem.W.KeqHits A s vb va (eqDI ks ls)
  | [], _, r => by
    cases r
    exact .nil
  | (k, i) :: ks, _, r => by
    cases r with
    | @cons _ q _ qs h t =>
      obtain ⟨k', v'⟩ := q
      obtain ⟨h1, h2⟩ := h
      have h1 : k = k' := h1
      subst h1
      obtain ⟨ti, rfl⟩ := (show ∃ t, v' = Value.int i t from h2)
      have ih := hits_int (A := A) (s := s) rb t
      have rk := rb.val k
      have e : eqDI ((k, i) :: ks) ls = (decide (valV (dI ls) k = some (.int i)) && eqDI ks ls) := rfl
      rw [e]
      cases hv : valV (dI ls) k with
      | none =>
        rw [hv] at rk
        cases hb : valueAt vb k with
        | none => rw [decide_eq_false (by intro z; cases z), Bool.false_and]; exact .miss hb
        | some y => rw [hb] at rk; cases rk
      | some y =>
        rw [hv] at rk
        obtain ⟨j, rfl⟩ : ∃ j, y = .int j := by
          have : ∀ (l : List (Key × Int)) y, valV (dI l) k = some y → ∃ j, y = .int j := by
            intro l
            induction l with
            | nil => intro y h; cases h
            | cons p r ih =>
              intro y h
              by_cases e : p.1 = k
              · have : valV (dI (p :: r)) k = some (.int p.2) := valV_pos e
                rw [this] at h
                cases h
                exact ⟨_, rfl⟩
              · have : valV (dI (p :: r)) k = valV (dI r) k := valV_neg e
                rw [this] at h
                exact ih y h
          exact this ls y hv
        cases hb : valueAt vb k with
        | none => rw [hb] at rk; cases rk
        | some y' =>
          rw [hb] at rk
          obtain ⟨tj, rfl⟩ := (show ∃ t, y' = Value.int j t from rk)
          have e2 : decide ((some (V.int j) : Option V) = some (V.int i)) = (i == j) := by
            by_cases h : i = j
            · subst h; simp
            · rw [decide_eq_false (by intro z; injection z with z; injection z with z; exact h z.symm), beq_eq_false_iff_ne.mpr h]
          rw [e2]
          exact .hit hb (SeqAt.EqAt.int_int _ _ _ _) ih
def rEqDI : R2 := fun x y H Q => ∃ a b ks ls, x = .ref a ∧ y = .ref b ∧ H a = some (.dK (dI ks)) ∧ H b = some (.dK (dI ls)) ∧ Q (.bl (decide (ks.length = ls.length) && eqDI ks ls)) H
theorem op_eqDI {X : Cx} (hu : X.A.units < cLine) : OpR X (compareOp .Eq) rEqDI := by
  intro pins s σ H x y v u Q I rx ry h
  obtain ⟨a, b, ks, ls, rfl, rfl, ea, eb, q⟩ := h
  cases (show v = Value.ref a from rx)
  cases (show u = Value.ref b from ry)
  obtain ⟨_, ya, va, ra, da⟩ := (show ObjOk X.prog X.w H s.heap a (.dK (dI ks)) from I.hok a _ ea)
  obtain ⟨_, yb, vb, rb, db⟩ := (show ObjOk X.prog X.w H s.heap b (.dK (dI ls)) from I.hok b _ eb)
  refine PySem.W.keq_eq (knd := mixKind X.prog X.w) (r := eqDI ks ls) ya yb da db hu (fun _ => hits_int rb ra) ?_
  have e : (va.length == vb.length) = decide (ks.length = ls.length) := by
    have h1 : va.length = ks.length := by rw [← ra.length, List.length_map]
    have h2 : vb.length = ls.length := by rw [← rb.length, List.length_map]
    rw [h1, h2]
    rfl
  rw [e]
  exact ⟨.bl _, H, I, rfl, q⟩
end EL
namespace EL
open PySem PySem.Spec PyProof.Rows L2 He TL
/-! ### objects that are there -/
def Al (M : List Addr) (H : Hp) : Prop := ∀ a ∈ M, ∃ o, H a = some o
theorem Al.out {M : List Addr} {H : Hp} {a : Addr} (h : Al M H) (n : H a = none) : a ∉ M := fun z => by obtain ⟨o, e⟩ := h a z; rw [n] at e; cases e
theorem Al.same {M : List Addr} {H H' : Hp} (h : Al M H) (s : Same H H') : Al M H' := fun a ha => let ⟨o, e⟩ := h a ha; ⟨o, s _ _ e⟩
theorem Al.md {M S : List Addr} {H H' : Hp} (h : Al M H) (m : Md S H H') (k : Al S H') : Al M H' := fun a ha => by
  by_cases z : a ∈ S
  · exact k a z
  · obtain ⟨o, e⟩ := h a ha
    exact ⟨o, m.out _ _ e z⟩
theorem Al.sub {M M' : List Addr} {H : Hp} (h : Al M H) (k : ∀ b ∈ M', b ∈ M) : Al M' H := fun a ha => h a (k a ha)
theorem free_md {S : List Addr} {H H' : Hp} {a : Addr} (m : Md S H H') (k : Al S H') (n : H' a = none) : H a = none := by
  cases hh : H a with
  | none => rfl
  | some o =>
    by_cases z : a ∈ S
    · obtain ⟨o', e⟩ := k a z
      rw [n] at e; cases e
    · rw [m.out _ _ hh z] at n; cases n
theorem al1 {a : Addr} {H : Hp} {o : HO} (h : H a = some o) : Al [a] H := fun b hb => by cases List.mem_singleton.mp hb; exact ⟨o, h⟩
theorem al_cons {a : Addr} {S : List Addr} {H : Hp} {o : HO} (h : H a = some o) (k : Al S H) : Al (a :: S) H := fun b hb => (List.mem_cons.mp hb).elim (fun e => e ▸ ⟨o, h⟩) (k b)
theorem al_nil {H : Hp} : Al [] H := fun b hb => by cases hb
theorem not1 {a b : Addr} (h : a ≠ b) : a ∉ [b] := by simp [h]
theorem not2 {a b c : Addr} (h : a ≠ b) (h2 : a ≠ c) : a ∉ [b, c] := by simp [h, h2]
theorem Src.md {H H' : Hp} {p l : Addr} {S : List Addr} (h : Src H p l) (m : Md S H H') (h1 : p ∉ S) (h2 : l ∉ S) : Src H' p l := by
  obtain ⟨ns, i, c, r, k1, k2, h3⟩ := h
  exact ⟨ns, i, c, r, m.out _ _ k1 h1, m.out _ _ k2 h2, h3⟩
/-! ### data whose lists are not in S -/
mutual
inductive DpX (K : PySem.W.Frag) (S : List Addr) (H : Hp) : V → PyData → Prop
  | non : DpX K S H .non .none
  | bl (b : Bool) : DpX K S H (.bl b) (.bool b)
  | int (i : Int) : DpX K S H (.int i) (.int i)
  | str (x : Str) : DpX K S H (.str x) (.str x)
  | lst {a : Addr} {xs : List V} {ds : List PyData} : H a = some (.lst xs) → a ∉ S → DpXs K S H xs ds → DpX K S H (.ref a) (.list ds)
  | tup {a : Addr} {xs : List V} {ds : List PyData} : SqT K H a xs → DpXs K S H xs ds → DpX K S H (.ref a) (.tuple ds)
inductive DpXs (K : PySem.W.Frag) (S : List Addr) (H : Hp) : List V → List PyData → Prop
  | nil : DpXs K S H [] []
  | cons {v : V} {d : PyData} {vs : List V} {ds : List PyData} : DpX K S H v d → DpXs K S H vs ds → DpXs K S H (v :: vs) (d :: ds)
end
section
variable {K : PySem.W.Frag} {S S' : List Addr} {H H' : Hp}
mutual
theorem DpX.dp : ∀ {d : PyData} {v : V}, DpX K S H v d → Dp K H v d
  | _, _, .non => .non
  | _, _, .bl b => .bl b
  | _, _, .int i => .int i
  | _, _, .str x => .str x
  | _, _, .lst h _ a => .lst (SqL.of h) (DpXs.dp a)
  | _, _, .tup h a => .tup h (DpXs.dp a)
theorem DpXs.dp : ∀ {ds : List PyData} {vs : List V}, DpXs K S H vs ds → DpAll K H vs ds
  | _, _, .nil => .nil
  | _, _, .cons a b => .cons (DpX.dp a) (DpXs.dp b)
end
mutual
theorem DpX.md (m : Md S H H') : ∀ {d : PyData} {v : V}, DpX K S H v d → DpX K S H' v d
  | _, _, .non => .non
  | _, _, .bl b => .bl b
  | _, _, .int i => .int i
  | _, _, .str x => .str x
  | _, _, .lst h n a => .lst (m.out _ _ h n) n (DpXs.md m a)
  | _, _, .tup h a => .tup (m.sqT h) (DpXs.md m a)
theorem DpXs.md (m : Md S H H') : ∀ {ds : List PyData} {vs : List V}, DpXs K S H vs ds → DpXs K S H' vs ds
  | _, _, .nil => .nil
  | _, _, .cons a b => .cons (DpX.md m a) (DpXs.md m b)
end
theorem DpX.same {d : PyData} {v : V} (s : Same H H') (h : DpX K S H v d) : DpX K S H' v d := h.md (.of s)
theorem DpXs.same {ds : List PyData} {vs : List V} (s : Same H H') (h : DpXs K S H vs ds) : DpXs K S H' vs ds := h.md (.of s)
mutual
theorem DpX.re (hm : ∀ b, b ∉ S → (∃ o, H b = some o) → b ∉ S') : ∀ {d : PyData} {v : V}, DpX K S H v d → DpX K S' H v d
  | _, _, .non => .non
  | _, _, .bl b => .bl b
  | _, _, .int i => .int i
  | _, _, .str x => .str x
  | _, _, .lst h n a => .lst h (hm _ n ⟨_, h⟩) (DpXs.re hm a)
  | _, _, .tup h a => .tup h (DpXs.re hm a)
theorem DpXs.re (hm : ∀ b, b ∉ S → (∃ o, H b = some o) → b ∉ S') : ∀ {ds : List PyData} {vs : List V}, DpXs K S H vs ds → DpXs K S' H vs ds
  | _, _, .nil => .nil
  | _, _, .cons a b => .cons (DpX.re hm a) (DpXs.re hm b)
end
theorem DpX.sub {d : PyData} {v : V} (h : DpX K S H v d) (k : ∀ b ∈ S', b ∈ S) : DpX K S' H v d := h.re fun b n _ z => n (k b z)
/-- one more place, which was not there -/
theorem DpX.more {d : PyData} {v : V} {p : Addr} (h : DpX K S H v d) (n : H p = none) : DpX K (p :: S) H v d := h.re fun b nb ⟨o, e⟩ z => (List.mem_cons.mp z).elim (fun e2 => by rw [e2, n] at e; cases e) nb
mutual
theorem DpX.of : ∀ {d : PyData} {v : V}, noL d = true → Dp K H v d → DpX K S H v d
  | _, _, _, .non => .non
  | _, _, _, .bl b => .bl b
  | _, _, _, .int i => .int i
  | _, _, _, .str x => .str x
  | _, _, n, .lst h a => by cases n
  | _, _, n, .tup h a => .tup h (DpXs.of n a)
theorem DpXs.of : ∀ {ds : List PyData} {vs : List V}, noLs ds = true → DpAll K H vs ds → DpXs K S H vs ds
  | _, _, _, .nil => .nil
  | _, _, n, .cons a b => .cons (DpX.of (Bool.and_eq_true_iff.mp n).1 a) (DpXs.of (Bool.and_eq_true_iff.mp n).2 b)
end
theorem DpXs.length : ∀ {ds : List PyData} {vs : List V}, DpXs K S H vs ds → vs.length = ds.length
  | _, _, .nil => rfl
  | _, _, .cons _ b => congrArg Nat.succ (DpXs.length b)
theorem DpXs.get : ∀ {ds : List PyData} {vs : List V} {i : Nat} {v : V}, DpXs K S H vs ds → vs[i]? = some v → ∃ d, ds[i]? = some d ∧ DpX K S H v d
  | _, _, 0, _, .cons a b, e => by cases e; exact ⟨_, rfl, a⟩
  | _, _, i + 1, _, .cons a b, e => DpXs.get (i := i) b e
theorem DpXs.at {ds : List PyData} {vs : List V} {n : Int} (h : DpXs K S H vs ds) (h0 : 0 ≤ n) (h1 : n < (ds.length : Nat)) : ∃ v d, atI vs n = some v ∧ ds[n.toNat]? = some d ∧ d ∈ ds ∧ DpX K S H v d := by
  obtain ⟨k, rfl⟩ := Int.eq_ofNat_of_zero_le h0
  have hk : k < vs.length := by rw [h.length]; omega
  have e := List.getElem?_eq_getElem hk
  obtain ⟨d, e2, x⟩ := h.get e
  exact ⟨vs[k], d, atI_nat e, e2, List.mem_of_getElem? e2, x⟩
theorem DpXs.snoc {v : V} {d : PyData} (k : DpX K S H v d) : ∀ {ds : List PyData} {vs : List V}, DpXs K S H vs ds → DpXs K S H (vs ++ [v]) (ds ++ [d])
  | _, _, .nil => .cons k .nil
  | _, _, .cons a b => .cons a (DpXs.snoc k b)
theorem DpX.lst_inv {v : V} {ds : List PyData} (h : DpX K S H v (.list ds)) : ∃ a xs, v = .ref a ∧ H a = some (.lst xs) ∧ a ∉ S ∧ DpXs K S H xs ds := by
  cases h with
  | lst h n a => exact ⟨_, _, rfl, h, n, a⟩
theorem DpX.tup_inv {v : V} {ds : List PyData} (h : DpX K S H v (.tuple ds)) : ∃ a xs, v = .ref a ∧ SqT K H a xs ∧ DpXs K S H xs ds := by
  cases h with
  | tup h a => exact ⟨_, _, rfl, h, a⟩
end
/-! ### written data -/
section
variable {X : Cx}
theorem pe_imp {e : Expr} {t t' : TE} (h : PE X e t) (k : ∀ σ H Q, t' σ H Q → t σ H Q) : PE X e t' := ⟨fun pins s σ H Q I q => h.run pins s σ H Q I (k σ H Q q)⟩
theorem pa_imp {es : List Expr} {t t' : TA} (h : PA X es t) (k : ∀ σ H Q, t' σ H Q → t σ H Q) : PA X es t' := ⟨fun pos pins s σ H Q I q => h.run pos pins s σ H Q I (k σ H Q q)⟩
def tLit (K : PySem.W.Frag) (d : PyData) : TE := fun _ H Q => ∀ v H', Same H H' → (∀ S, Al S H → DpX K S H' v d) → Q v H'
def tLits (K : PySem.W.Frag) (ds : List PyData) : TA := fun _ H Q => ∀ vs H', Same H H' → (∀ S, Al S H → DpXs K S H' vs ds) → Q vs H'
theorem lit_n {j pos} : PE X (.Constant .none j pos) (tLit X.K .none) := pe_imp pe_non fun _ H Q h => h _ _ (.refl _) fun _ _ => .non
theorem lit_b {b j pos} : PE X (.Constant (.bool b) j pos) (tLit X.K (.bool b)) := pe_imp pe_bl fun _ H Q h => h _ _ (.refl _) fun _ _ => .bl b
theorem lit_i {i j pos} : PE X (.Constant (.int i) j pos) (tLit X.K (.int i)) := pe_imp pe_int fun _ H Q h => h _ _ (.refl _) fun _ _ => .int i
theorem lit_s {z j pos} : PE X (.Constant (.str z) j pos) (tLit X.K (.str z)) := pe_imp pe_str fun _ H Q h => h _ _ (.refl _) fun _ _ => .str z
/-- an expression that is an int -/
theorem lit_e {e : Expr} {t : TE} (i : Int) (h : PE X e t) (k : ∀ σ H (Q : VK), Q (.int i) H → t σ H Q) : PE X e (tLit X.K (.int i)) := pe_imp h fun σ H Q q => k σ H Q (q _ _ (.refl _) fun _ _ => .int i)
theorem lits_nil : PA X [] (tLits X.K []) := pa_imp pa_nil fun _ H Q h => h _ _ (.refl _) fun _ _ => .nil
theorem lits_cons {e : Expr} {es : List Expr} {d : PyData} {ds : List PyData} (h : PE X e (tLit X.K d)) (r : PA X es (tLits X.K ds)) (hs : starEach (e :: es) X.env = (false, eval e X.env) :: starEach es X.env := by rfl) : PA X (e :: es) (tLits X.K (d :: ds)) :=
  pa_imp (pa_cons h r hs) fun _ H Q q v H1 s1 h1 vs H2 s2 h2 => q _ _ (s1.trans s2) fun S al => .cons ((h1 S al).same s2) (h2 S (al.same s1))
theorem lit_t {es : List Expr} {ds : List PyData} {x1 pos} (h : PA X es (tLits X.K ds)) (hl : ds.length ≤ 1000 := by decide) : PE X (.Tuple es x1 pos) (tLit X.K (.tuple ds)) :=
  pe_imp (pe_tup h) fun _ H Q q vs H1 s1 h1 => by
    have l := (h1 [] al_nil).length
    refine ⟨Nat.le_trans (by rw [l]; exact hl) (by decide), fun p np => q _ _ (s1.trans (same_upd np)) fun S al => .tup (SqT.of upd_same) ((h1 S al).same (same_upd np))⟩
theorem lit_l {es : List Expr} {ds : List PyData} {pos} (h : PA X es (tLits X.K ds)) (hl : ds.length ≤ 1000 := by decide) : PE X (.List es pos) (tLit X.K (.list ds)) :=
  pe_imp (pe_lst h) fun _ H Q q vs H1 s1 h1 => by
    have l := (h1 [] al_nil).length
    refine ⟨Nat.le_trans (by rw [l]; exact hl) (by decide), fun p np => q _ _ (s1.trans (same_upd np)) fun S al => .lst upd_same ((al.same s1).out np) ((h1 S al).same (same_upd np))⟩
end
/-! ### calls with keywords that let out by the slots -/
section
variable {X : Cx} {CX : CXT} {k n : Nat} {f : Addr} {fd : FuncData} {ps ks : List Str} {sp : Sp} {E : L2.St → XK} {x : Str} {p pos : Pos} {e : Expr} {es : List Expr} {kws : List Keyword} {t tk : TA} {g : List Value → List Value → List Value} {gV : List V → List V → List V}
def tCallNE (n m : Nat) (sp : Sp) (gV : List V → List V → List V) (E : L2.St → XK) (t tk : TA) : TE := fun σ H Q => t σ H fun vs H1 => tk σ H1 fun zs H2 => vs.length = n ∧ zs.length = m ∧ sp (gV vs zs) H2 Q (E σ)
theorem run_fnNE {pins : List (Addr × Obj)} {σ : L2.St} {H : Hp} {s : Shared} {Q : VK} {us ws : List Value} {vs zs : List V} (F : FnOk X.prog X.w X.K X.mg X.base CX k f fd ps sp) (hr : Room k X.A) (hb : KBn X.K fd ps n ks g gV) (hx : PassesAt CX X σ (E σ))
    (I : Inv X pins σ H s) (r : Vals vs us) (rz : Vals zs ws) (l1 : vs.length = n) (l2 : zs.length = ks.length) (h : sp (gV vs zs) H Q (E σ)) : wpAny (model X.prog X.w) X.A (call (.ref f) us (ks.zip ws)) (EP X pins σ Q) X.xe s := by
  have r2 := hb.rel r rz
  refine wpAny_call (codeAny_mono (F.run X.A X.stack s H ⟨us, ks.zip ws⟩ (g us ws) (gV vs zs) Q (E σ) hr I.env0 (hb.to s us ws I.kIn (r.length.symm.trans l1) (rz.length.symm.trans l2)) r2 h) fun r s' hq => ?_)
  cases r with
  | error e => exact hx pins H s e s' I hq
  | ok fl =>
    cases fl with
    | ret u => exact I.after hq
    | next => exact False.elim hq
    | brk => exact False.elim hq
    | cont => exact False.elim hq
theorem pe_callNE (F : FnOk X.prog X.w X.K X.mg X.base CX k f fd ps sp) (hr : Room k X.A) (hm : X.mg x = some (.ref f)) (hk : PySem.W.keepIn X.K (.ref f) = true) (hb : KBn X.K fd ps n ks g gV) (hx : ∀ σ, PassesAt CX X σ (E σ))
    (ha : PA X (e :: es) t) (hkw : PK X kws tk) (hg : Gl X x := by rfl) (hall : (backToKw pos (keywordEach kws X.env)).all (·.1.isSome) = true := by rfl) (hks : (backToKw pos (keywordEach kws X.env)).filterMap (·.1) = ks := by rfl)
    (hdb : (x == ("__debug__" : Str)) = false := by decide) (he : starEach (e :: es) X.env = (false, eval e X.env) :: starEach es X.env := by rfl)
    (hpl : ((backTo pos (starEach (e :: es) X.env)).any (·.1) || (backToKw pos (keywordEach kws X.env)).any (·.1.isNone)) = false := by rfl) :
    PE X (.Call (.Name x p) (e :: es) kws pos) (tCallNE n ks.length sp gV E t tk) := by
  refine ⟨fun pins s σ H Q I h => ?_⟩
  refine wpAny_Call_Name_kw (ld_glob I hg hm ?_ hdb)
  refine PySem.W.callWith_KW (h₀ := X.base) I.ok.mod.kin hk hall (thn (ha.run pos pins s σ H _ I h) fun us s1 ⟨vs, H1, I1, r, q⟩ => ?_) hpl he
  refine thn (hkw.run pos pins s1 σ H1 _ I1 q) fun ws s2 ⟨zs, H2, I2, rz, l1, l2, q2⟩ => ⟨I2.kIn, ?_⟩
  rw [hks]
  exact run_fnNE F hr hb (hx σ) I2 r rz l1 l2 q2
end
end EL
namespace EL
open PySem PySem.Spec PyProof.Rows L2 He TL
/-! ### x != y by object.__ne__ over an own __eq__ -/
theorem one_entry : entryFor table "object.__ne__" = some Builtin.«object.__ne__» := entryFor_of_tree (by kernel_rfl)
theorem one_plain : plainId "object.__ne__" = true := by decide +kernel
theorem one_kind : builtinKind "object.__ne__" = some .slot := by decide +kernel
theorem one_split : splitId "object.__ne__" = some ("object", "__ne__") := by decide +kernel
theorem one_args (a b : Value) : argsOk "object.__ne__" ⟨[a, b], []⟩ := by unfold argsOk; kernel_rfl
theorem one_bind (self : Value) : bindSpecial (.builtin "object.__ne__") self = pure (.builtin "object.__ne__", [self]) :=
  (Slot.of (T := "object") (name := "__ne__") (owner := "object") (n := "__ne__") (by rw [typeLookup_type, builtinLookup_eq_fast]; kernel_rfl) (by decide +kernel) (by decide +kernel) (by decide +kernel)
    (.inl (by decide +kernel)) (by rw [isSubtype_type]; kernel_rfl)).bind self
section
variable {prog : Program} {w : World} {A : Around} {E : Value → Shared → Prop} {s : Shared} {K : PySem.W.Frag} {C g x : Addr} {ox : Obj} {od : Option Obj} {b tb : Value}
theorem ne_call {Q : Value → Shared → Prop} (hu : A.units + 1 < cLine) (X : K.In s.heap) (I : PySem.W.InstAt s.heap x ox C od) (ho : PySem.W.mroIn K C (.type "object") = some true) (he : PySem.W.findIn K (.ref C) "__eq__" = some (some (.ref g))) (hf : PySem.W.isFn K (.ref g) = true)
    (h : wpAny (model prog w) A.in1 (call (.ref g) [.ref x, b]) (fun v s' => ∃ k : Bool, v = .bool k ∧ Q (.bool (!k)) s') E s) : wpAny (model prog w) A (call (.builtin "object.__ne__") [.ref x, b]) Q E s := by
  have t2 : PySem.W.Looks (model prog w) s.heap (isInstance (.ref x) (.type "object")) true := I.type.andThen (PySem.W.looks_mroIn X ho)
  refine wpAny_call (codeAny_call_builtin one_plain one_entry (PySem.W.check_slot one_kind one_split t2 (one_args _ _) ?_))
  show wpAny (model prog w) A.in1 (do
    cRoomFor "comparison" [.ref x, b]
    match ← callSpecialIfBound? (.ref x) "__eq__" [b] with
    | some .notImplemented | none => ret .notImplemented
    | some r => ret (.bool (!(← truthy r)))) _ _ s
  refine wpAny_bind (wpAny_cRoomFor (show A.units + 1 < cLine from hu) (wpAny_bind (PySem.W.ifBound_K X I he hf (wpAny_mono h (fun v s' hv => ?_) fun _ _ e => e))))
  obtain ⟨k, rfl, q⟩ := hv
  exact wpAny_bind (wpAny_truthy_bool (wpAny_pure q))
theorem ne_own {Q : Value → Shared → Prop} (hu : A.units + 1 < cLine) (X : K.In s.heap) (I : PySem.W.InstAt s.heap x ox C od) (hb : PySem.W.Looks (model prog w) s.heap (typeOf b) tb) (hn : PySem.W.notFirst K C tb = true)
    (hs : PySem.W.findIn K (.ref C) "__ne__" = some (some (.builtin "object.__ne__"))) (ho : PySem.W.mroIn K C (.type "object") = some true) (he : PySem.W.findIn K (.ref C) "__eq__" = some (some (.ref g))) (hf : PySem.W.isFn K (.ref g) = true)
    (h : wpAny (model prog w) A.in1 (call (.ref g) [.ref x, b]) (fun v s' => ∃ k : Bool, v = .bool k ∧ Q (.bool (!k)) s') E s) : wpAny (model prog w) A (richCompare .NotEq (.ref x) b) Q E s := by
  have one : wpAny (model prog w) A (tryCompare (.ref x) (cmpInfo .NotEq).2.1 b) (fun r s' => ∃ v, r = some v ∧ Q v s') E s := by
    unfold tryCompare
    refine wpAny_bind ?_
    simp only [callSpecialIfBound?, bindSpecialIfBound?]
    refine wpAny_holding (wpAny_bind (wpAny_bind (wpAny_bind (I.type.here ((PySem.W.looks_findIn X hs).here ?_)))))
    refine wpAny_bind (wpAny_askSetting (wpAny_ite ?_))
    have fin : ∀ (Q' : Option Value → Shared → Prop), (∀ (k : Bool) s', Q (.bool (!k)) s' → Q' (some (.bool (!k))) s') → wpAny (model prog w) A (call (.builtin "object.__ne__") ([.ref x] ++ [b]) >>= fun v => pure (some v)) Q' E s := fun Q' hQ => wpAny_bind (wpAny_mono (ne_call (Q := fun v s' => ∃ k : Bool, v = .bool (!k) ∧ Q (.bool (!k)) s') hu X I ho he hf (wpAny_mono h (fun v s' ⟨k, e, q⟩ => ⟨k, e, k, rfl, q⟩) fun _ _ e => e)) (fun v s' ⟨k, e, q⟩ => by subst e; exact wpAny_pure (hQ k s' q)) fun _ _ e => e)
    split
    · exact wpAny_bind ((PySem.W.Looks.of_pure (one_bind _)).here (wpAny_pure (by exact fin _ fun k s' q => wpAny_pure ⟨_, rfl, q⟩)))
    · exact wpAny_tryCatch (wpAny_bind ((PySem.W.Looks.of_pure (one_bind _)).here (wpAny_pure (by exact fin _ fun k s' q => wpAny_pure ⟨_, rfl, q⟩))))
  unfold richCompare
  simp only [oneThing_ref]
  refine wpAny_holding (wpAny_bind (wpAny_cRoomFor (by omega) ?_))
  refine wpAny_bind (I.type.here (wpAny_bind (hb.here ?_)))
  split
  · rename_i q
    have e : PySem.W.subIn K tb (.ref C) = some false := by
      rcases Bool.or_eq_true_iff.mp hn with e | e
      · rw [beq_iff_eq.mp e] at q; simp at q
      · exact beq_iff_eq.mp e
    refine wpAny_bind ((PySem.W.looks_subIn X e).here ?_)
    simp only [Bool.false_eq_true, if_false]
    refine wpAny_bind (wpAny_mono one (fun r s' z => ?_) fun _ _ e => e)
    obtain ⟨v, rfl, hq⟩ := z
    exact wpAny_pure hq
  · refine wpAny_bind (wpAny_pure ?_)
    simp only [Bool.false_eq_true, if_false]
    refine wpAny_bind (wpAny_mono one (fun r s' z => ?_) fun _ _ e => e)
    obtain ⟨v, rfl, hq⟩ := z
    exact wpAny_pure hq
end
section
variable {X : Cx} {CX : CXT} {k : Nat} {C g : Addr} {sp : Sp} {E : XK}
def rNeO (K : PySem.W.Frag) (C : Addr) (sp : Sp) (E : XK) : R2 := fun x y H Q => ∃ a dx fs t, x = .ref a ∧ H a = some (.ins C dx fs) ∧ TyX K H y t ∧ PySem.W.notFirst K C t = true ∧ sp [x, y] H (fun z H' => ∃ b : Bool, z = .bl b ∧ Q (.bl (!b)) H') E
theorem op_neO (c : OC X.K C) (hn : PySem.W.findIn X.K (.ref C) "__ne__" = some (some (.builtin "object.__ne__"))) (hs : PySem.W.findIn X.K (.ref C) "__eq__" = some (some (.ref g))) (hf : PySem.W.isFn X.K (.ref g) = true) (F : FnR X.prog X.w X.K X.mg X.base CX k g sp)
    (hr : Room (k + 1) X.A) (hx : Passes CX X E) : OpR X (compareOp .NotEq) (rNeO X.K C sp E) := by
  intro pins s σ H x y v u Q I rx ry h
  obtain ⟨a, dx, fs, t, rfl, ha, ty, hnf, q⟩ := h
  cases (show v = Value.ref a from rx)
  obtain ⟨ox, od, J, _⟩ := ins_at I ha
  obtain ⟨P, Z, p, _⟩ := kit_of I ry ty
  show wpAny _ X.A (richCompare .NotEq (.ref a) u) _ _ s
  refine ne_own (tb := t) (by have := hr.units; omega) I.kIn J (Z.ty _ _ I.kIn p) hnf hn c.ob hs hf ?_
  refine wpAny_mono (wpAny_call (SlX.run_at (us := [.ref a, u]) (ws := [.ref a, y]) F (Room.in1 hr) I.env0.in1 hx I (.cons rfl (.cons ry .nil)) q)) (fun w s' z => ?_) fun _ _ x => x
  obtain ⟨z', H', I', rz, b, eb, qz⟩ := z
  subst eb
  cases (show w = Value.bool b from rz)
  exact ⟨b, rfl, .bl (!b), H', I', rfl, qz⟩
end
end EL
namespace EL
open PySem PySem.Spec PyProof.Rows L2 He TL
/-! ### the head, its fragment by a written list of addresses -/
def obsZG (as : List Addr) (fa : List Fa) (fn : List DefE) (xn : List DefX) (ts : List Tab) (ex : PySem.W.Frag → Bool) (g : Addr → Option Obj) : AlY := obsY fa fn xn ts ex (frG g as)
def hookZ (as : List Addr) (fa : List Fa) (fn : List DefE) (xn : List DefX) (ts : List Tab) (ex : PySem.W.Frag → Bool) : PySem.W.Hook where
  α := AlY
  obs := fun s => obsZG as fa fn xn ts ex s.heap.get?
  val := fun w => valY fn xn ts w
  says := fun w h => ∃ K : PySem.W.Frag, K.In h ∧ SaysY fa fn xn ts ex w K
  of := fun _ _ e => ⟨_, frG_in, e⟩
  keeps := fun _ _ _ ⟨K, hK, c⟩ k => ⟨K, PySem.W.Frag.In.keeps hK k, c⟩
theorem obsZG_eq {as : List Addr} {fa : List Fa} {fn : List DefE} {xn : List DefX} {ts : List Tab} {ex : PySem.W.Frag → Bool} {g : Addr → Option Obj} {s : Shared} (h : ∀ a, g a = s.heap.get? a) : obsZG as fa fn xn ts ex g = (hookZ as fa fn xn ts ex).obs s := by
  have e : g = s.heap.get? := funext h
  rw [e] <;> rfl
end EL
namespace EL
open PySem PySem.Spec PyProof.Rows L2 He TL
open AutoSeq1 (wpAny_loadPart')
open MeetsSeq MeetsSeq2 MeetsSeq3 SeqRoads2
/-! ### x in xs, xs == ys where == is an own def: G is kept -/
def EqG (prog : Program) (w : World) (A : Around) (G : Shared → Prop) (E : Value → Shared → Prop) (y x : Value) (b : Bool) : Prop := ∀ (s : Shared) (Q : Bool → Shared → Prop), G s → (∀ s', G s' → Q b s') → wpAny (model prog w) A (eqBool y x) Q E s
theorem contains_loopG {prog : Program} {w : World} (G : Shared → Prop) (l : Addr) (items : List Value) (x : Value) (e : Nat → Bool) (k : Nat) :
    ∀ i : Nat, items.length - i = k → MeetsIn prog w (Builtin.«list.__contains__.loop» ⟨[.ref l, x, rawInt i], []⟩)
      (fun A R s => G s ∧ (∀ s, G s → ∃ n, s.heap.get? l = some { cls := .type "list", data := .seq items.toArray n }) ∧ (∀ j y, items[j]? = some y → EqG prog w A.in1 G (fun e s' => R (.error e) s') y x (e j)) ∧ ∀ s', G s' → R (.ok (.ret (.bool (((List.range items.length).drop i).any e)))) s') := by
  induction k with
  | zero =>
    intro i hk A R s h
    obtain ⟨g, hl, he, h⟩ := h
    obtain ⟨n, hl⟩ := hl s g
    have h := h s g
    obtain ⟨hp, gg, d, tk, os⟩ := s
    wp_walk using wpAny_loadPart' hl
    have hi : items.toArray[((i : Nat) : Int).toNat]? = none := by simp; omega
    have hd : (List.range items.length).drop i = [] := by simp; omega
    rw [hd] at h
    rw [hi]
    wp_walk
    exact h
  | succ k ih =>
    intro i hk A R s h
    obtain ⟨g, hl, he, h⟩ := h
    obtain ⟨n, hl0⟩ := hl s g
    have g0 := g
    obtain ⟨hp, gg, d, tk, os⟩ := s
    wp_walk using wpAny_loadPart' hl0
    have hlt : i < items.length := by omega
    have hi : items.toArray[((i : Nat) : Int).toNat]? = some items[i] := by simp [hlt]
    have hd : (List.range items.length).drop i = i :: (List.range items.length).drop (i + 1) := by simp [List.drop_eq_getElem_cons, hlt]
    rw [hd] at h
    simp only [List.any_cons] at h
    rw [hi]
    refine wpAny_bind (he i _ (List.getElem?_eq_getElem hlt) _ _ g0 fun s1 g1 => ?_)
    cases hb : e i with
    | true =>
      have h := h s1 g1
      rw [hb] at h
      obtain ⟨hp, gg, d, tk, os⟩ := s1
      wp_walk
      exact h
    | false =>
      simp only [hb, Bool.false_or] at h
      have hc : ((i : Int) + 1) = ((i + 1 : Nat) : Int) := by push_cast; rfl
      obtain ⟨hp, gg, d, tk, os⟩ := s1
      wp_walk
      rw [hc]
      exact ⟨plainId_quiet plain_contains_loop _, codeAny_builtin entry_contains_loop (by
        rw [Around.under_plainId plain_contains_loop _]
        exact ih (i + 1) (by omega) A R _ ⟨g1, hl, he, h⟩)⟩
theorem containsG {prog : Program} {w : World} (G : Shared → Prop) (l : Addr) (items : List Value) (x : Value) (e : Nat → Bool) : MeetsIn prog w (Builtin.«list.__contains__» ⟨[.ref l, x], []⟩)
      (fun A R s => G s ∧ (∀ s, G s → ∃ n, s.heap.get? l = some { cls := .type "list", data := .seq items.toArray n }) ∧ (∀ j y, items[j]? = some y → EqG prog w A.in1 G (fun e s' => R (.error e) s') y x (e j)) ∧ ∀ s', G s' → R (.ok (.ret (.bool ((List.range items.length).any e)))) s') := by
  intro A R s h
  obtain ⟨g, hl, he, h⟩ := h
  obtain ⟨hp, gg, d, tk, os⟩ := s
  wp_walk
  exact ⟨plainId_quiet plain_contains_loop _, codeAny_builtin entry_contains_loop (by
    rw [Around.under_plainId plain_contains_loop _]
    exact contains_loopG G l items x e _ 0 rfl A R _ ⟨g, hl, he, h⟩)⟩
theorem eq_loopG {prog : Program} {w : World} (G : Shared → Prop) (l b : Addr) (items items2 : List Value) (hsz : items.length = items2.length) (e : Nat → Bool) (k : Nat) :
    ∀ i : Nat, items.length - i = k → MeetsIn prog w (Builtin.«list.__eq__.loop» ⟨[.ref l, .ref b, rawInt i, rawInt 2], []⟩)
      (fun A R s => G s ∧ (∀ s, G s → ∃ n, s.heap.get? l = some { cls := .type "list", data := .seq items.toArray n }) ∧ (∀ s, G s → ∃ n, s.heap.get? b = some { cls := .type "list", data := .seq items2.toArray n }) ∧
        (∀ j x y, items[j]? = some x → items2[j]? = some y → EqG prog w A.in1 G (fun e s' => R (.error e) s') x y (e j)) ∧ ∀ s', G s' → R (.ok (.ret (.bool (((List.range items.length).drop i).all e)))) s') := by
  induction k with
  | zero =>
    intro i hk A R s h
    obtain ⟨g, hl, hb, he, h⟩ := h
    obtain ⟨n, hl⟩ := hl s g
    obtain ⟨n2, hb⟩ := hb s g
    have h := h s g
    obtain ⟨hp, gg, d, tk, os⟩ := s
    wp_walk using wpAny_loadPart' hl, wpAny_loadPart' hb
    have hi1 : items.toArray[((i : Nat) : Int).toNat]? = none := by simp; omega
    have hi2 : items2.toArray[((i : Nat) : Int).toNat]? = none := by simp; omega
    have hd : (List.range items.length).drop i = [] := by simp; omega
    rw [hd] at h
    rw [hi1, hi2]
    wp_walk using wpAny_loadPart' hl, wpAny_loadPart' hb
    show R (.ok (.ret (.bool (items.toArray.size == items2.toArray.size)))) _
    simpa [hsz] using h
  | succ k ih =>
    intro i hk A R s h
    obtain ⟨g, hl, hb, he, h⟩ := h
    obtain ⟨n, hl0⟩ := hl s g
    obtain ⟨n2, hb0⟩ := hb s g
    have g0 := g
    obtain ⟨hp, gg, d, tk, os⟩ := s
    wp_walk using wpAny_loadPart' hl0, wpAny_loadPart' hb0
    have hlt : i < items.length := by omega
    have hlt2 : i < items2.length := by omega
    have hi1 : items.toArray[((i : Nat) : Int).toNat]? = some items[i] := by simp [hlt]
    have hi2 : items2.toArray[((i : Nat) : Int).toNat]? = some items2[i] := by simp [hlt2]
    have hd : (List.range items.length).drop i = i :: (List.range items.length).drop (i + 1) := by simp [List.drop_eq_getElem_cons, hlt]
    have hc : ((i : Int) + 1) = ((i + 1 : Nat) : Int) := by push_cast; rfl
    rw [hd] at h
    simp only [List.all_cons] at h
    rw [hi1, hi2]
    refine wpAny_bind (he i _ _ (List.getElem?_eq_getElem hlt) (List.getElem?_eq_getElem hlt2) _ _ g0 fun s1 g1 => ?_)
    cases hb' : e i with
    | true =>
      simp only [hb', Bool.true_and] at h
      obtain ⟨hp, gg, d, tk, os⟩ := s1
      wp_walk
      rw [hc]
      exact ⟨plainId_quiet plain_eq_loop _, codeAny_builtin entry_eq_loop (by
        rw [Around.under_plainId plain_eq_loop _]
        exact ih (i + 1) (by omega) A R _ ⟨g1, hl, hb, he, h⟩)⟩
    | false =>
      have h := h s1 g1
      rw [hb'] at h
      obtain ⟨n3, hl1⟩ := hl s1 g1
      obtain ⟨n4, hb1⟩ := hb s1 g1
      obtain ⟨hp, gg, d, tk, os⟩ := s1
      wp_walk using wpAny_loadPart' hl1, wpAny_loadPart' hb1
      rw [hi1, hi2]
      wp_walk
      simpa using h
theorem eqG {prog : Program} {w : World} (G : Shared → Prop) (l b : Addr) (items items2 : List Value) (e : Nat → Bool) : MeetsIn prog w (Builtin.«list.__eq__» ⟨[.ref l, .ref b], []⟩)
      (fun A R s => G s ∧ (∀ s, G s → ∃ n, s.heap.get? l = some { cls := .type "list", data := .seq items.toArray n }) ∧ (∀ s, G s → ∃ n, s.heap.get? b = some { cls := .type "list", data := .seq items2.toArray n }) ∧
        (∀ j x y, items[j]? = some x → items2[j]? = some y → EqG prog w A.in1 G (fun e s' => R (.error e) s') x y (e j)) ∧ ∀ s', G s' → R (.ok (.ret (.bool (decide (items.length = items2.length) && (List.range items.length).all e)))) s') := by
  intro A R s h
  obtain ⟨g, hl, hb, he, h⟩ := h
  obtain ⟨n, hl0⟩ := hl s g
  obtain ⟨n2, hb0⟩ := hb s g
  have g0 := g
  have f3 := AutoSeq1.sub_list_list
  by_cases hsz : items.length = items2.length
  · simp only [decide_eq_true hsz, Bool.true_and] at h
    obtain ⟨hp, gg, d, tk, os⟩ := s
    have hne : ¬ (items.toArray.size != items2.toArray.size) = true := by simp [hsz]
    wp_walk using wpAny_loadPart' hl0, wpAny_loadPart' hb0
    exact ⟨plainId_quiet plain_eq_loop _, codeAny_builtin entry_eq_loop (by
      rw [Around.under_plainId plain_eq_loop _]
      exact eq_loopG G l b items items2 hsz e _ 0 rfl A R _ ⟨g0, hl, hb, he, h⟩)⟩
  · have h := h s g
    rw [decide_eq_false hsz, Bool.false_and] at h
    obtain ⟨hp, gg, d, tk, os⟩ := s
    have hc0 : (items.toArray.size != items2.toArray.size) = true := by simp [hsz]
    wp_walk using wpAny_loadPart' hl0, wpAny_loadPart' hb0
    exact h
end EL
namespace EL
open PySem PySem.Spec PyProof.Rows L2 He TL
theorem range_any {α : Type} {f : α → Bool} {e : Nat → Bool} : ∀ {l : List α}, (∀ i a, l[i]? = some a → e i = f a) → (List.range l.length).any e = l.any f := by
  intro l
  induction l generalizing e with
  | nil => intro _; rfl
  | cons x r ih =>
    intro h
    rw [List.length_cons, List.range_succ_eq_map, List.any_cons, List.any_map, List.any_cons, h 0 x rfl, ih (e := e ∘ Nat.succ) fun i a ha => h (i + 1) a ha]
theorem range_all {α : Type} {f : α → Bool} {e : Nat → Bool} : ∀ {l : List α}, (∀ i a, l[i]? = some a → e i = f a) → (List.range l.length).all e = l.all f := by
  intro l
  induction l generalizing e with
  | nil => intro _; rfl
  | cons x r ih =>
    intro h
    rw [List.length_cons, List.range_succ_eq_map, List.all_cons, List.all_map, List.all_cons, h 0 x rfl, ih (e := e ∘ Nat.succ) fun i a ha => h (i + 1) a ha]
theorem vals_refs : ∀ {ss : List Addr} {us : List Value}, Vals (ss.map V.ref) us → us = ss.map Value.ref
  | [], _, .nil => rfl
  | a :: r, _, .cons h t => by
    cases (show _ = Value.ref a from h)
    rw [vals_refs t]
    rfl
section
variable {X : Cx} {CX : CXT} {k : Nat} {C g : Addr} {sp : Sp} {E : XK}
def OwnEq1 (K : PySem.W.Frag) (C : Addr) (sp : Sp) (E : XK) (H : Hp) (a b : Addr) (e : Bool) : Prop := (a = b → e = true) ∧ ∃ dx fs t, H a = some (.ins C dx fs) ∧ TyX K H (.ref b) t ∧ PySem.W.notFirst K C t = true ∧ sp [.ref a, .ref b] H (fun z H' => z = .bl e ∧ H = H') E
theorem eqG_own (hs : PySem.W.findIn X.K (.ref C) "__eq__" = some (some (.ref g))) (hf : PySem.W.isFn X.K (.ref g) = true) (F : FnR X.prog X.w X.K X.mg X.base CX k g sp) (hr : Room (k + 1) X.A) (hx : Passes CX X E) {pins : List (Addr × Obj)} {σ : L2.St} {H : Hp} {a b : Addr} {e : Bool}
    (h : OwnEq1 X.K C sp E H a b e) : EqG X.prog X.w X.A.in1 (Inv X pins σ H) X.xe (.ref a) (.ref b) e := by
  intro s Q I q
  obtain ⟨h1, dx, fs, t, ha, ty, hn, hsp⟩ := h
  unfold eqBool
  refine wpAny_holding ?_
  refine wpAny_ite_split (fun hab => ?_) (fun _ => ?_)
  · have := eq_of_beq hab
    injection this with this
    rw [h1 this] at q
    exact wpAny_bind (wpAny_rule (wpAny_pure (q s I)))
  · obtain ⟨ox, od, J, _⟩ := ins_at I ha
    obtain ⟨P, Z, p, _⟩ := kit_of I (show RelV (.ref b) (.ref b) from rfl) ty
    obtain ⟨m, hF⟩ := I.fr
    refine wpAny_bind (PySem.W.cmp_K (op := .Eq) (tb := t) (by show X.A.units + 1 < cLine; have := hr.units; omega) hF I.ok.mod.kin J (Z.ty _ _ I.kIn p) hn hs hf ?_)
    refine wpAny_mono (wpAny_call (SlX.run_at (us := [.ref a, .ref b]) (ws := [.ref a, .ref b]) F (Room.in1 hr) I.env0.in1 hx I (.cons rfl (.cons rfl .nil)) hsp)) (fun w s' z => ?_) fun _ _ x => x
    obtain ⟨z', H', I', rz, ez, eH⟩ := z
    subst ez eH
    cases (show w = Value.bool e from rz)
    exact wpAny_truthy_bool (q s' I')
theorem lst_obj {pins : List (Addr × Obj)} {σ : L2.St} {H : Hp} {p : Addr} {ss : List Addr} (h : H p = some (.lst (ss.map V.ref))) : ∀ s, Inv X pins σ H s → ∃ n, s.heap.get? p = some { cls := .type "list", data := .seq (ss.map Value.ref).toArray n } := fun s I => by
  obtain ⟨_, its, n, r, e⟩ := (show ObjOk X.prog X.w H s.heap p (.lst (ss.map V.ref)) from I.hok p _ h)
  rw [vals_refs r] at e
  exact ⟨n, e⟩
def rInOwn (K : PySem.W.Frag) (C : Addr) (sp : Sp) (E : XK) (neg : Bool) : R2 := fun x y H Q => ∃ (p b : Addr) (ss : List Addr) (e : Addr → Bool), x = .ref b ∧ y = .ref p ∧ H p = some (.lst (ss.map V.ref)) ∧ (∀ a ∈ ss, OwnEq1 K C sp E H a b (e a)) ∧ Q (.bl (if neg then !ss.any e else ss.any e)) H
theorem inOwn_core (hs : PySem.W.findIn X.K (.ref C) "__eq__" = some (some (.ref g))) (hf : PySem.W.isFn X.K (.ref g) = true) (F : FnR X.prog X.w X.K X.mg X.base CX k g sp) (hr : Room (k + 1) X.A) (hx : Passes CX X E) {pins : List (Addr × Obj)} {σ : L2.St} {H : Hp} {s : Shared} {p b : Addr} {ss : List Addr} {e : Addr → Bool} {Q : Value → Shared → Prop}
    (I : Inv X pins σ H s) (hp : H p = some (.lst (ss.map V.ref))) (he : ∀ a ∈ ss, OwnEq1 X.K C sp E H a b (e a)) (q : ∀ s', Inv X pins σ H s' → Q (.bool (ss.any e)) s') : wpAny (model X.prog X.w) X.A (call (.builtin "list.__contains__") [.ref p, .ref b]) Q X.xe s := by
  obtain ⟨n, ho⟩ := lst_obj hp s I
  refine call_meetsIn PySem.F.slot_list_contains ⟨_, ho, rfl⟩ PySem.F.entry_list_contains (PySem.F.args_list_contains_2 _ _) (containsG (Inv X pins σ H) p (ss.map Value.ref) (.ref b) (fun i => match ss[i]? with | some a => e a | none => false)) ⟨I, lst_obj hp, fun j y hy => ?_, fun s' I' => ?_⟩
  · rw [List.getElem?_map] at hy
    cases ha : ss[j]? with
    | none => rw [ha] at hy; cases hy
    | some a =>
      rw [ha] at hy
      cases hy
      exact eqG_own hs hf F hr hx (he a (List.mem_of_getElem? ha))
  · have z := q s' I'
    rw [List.length_map, range_any (l := ss) (f := e) (fun i a ha => by rw [ha])]
    exact z
theorem op_inOwn (hs : PySem.W.findIn X.K (.ref C) "__eq__" = some (some (.ref g))) (hf : PySem.W.isFn X.K (.ref g) = true) (F : FnR X.prog X.w X.K X.mg X.base CX k g sp) (hr : Room (k + 1) X.A) (hx : Passes CX X E) : OpR X (compareOp .In) (rInOwn X.K C sp E false) := by
  intro pins s σ H x y v u Q I rx ry h
  obtain ⟨p, b, ss, e, rfl, rfl, hp, he, q⟩ := h
  cases (show v = Value.ref b from rx)
  cases (show u = Value.ref p from ry)
  obtain ⟨n, ho⟩ := lst_obj hp s I
  show wpAny _ X.A (do return Value.bool (← contains (.ref p) (.ref b))) _ _ s
  refine wpAny_bind (wpAny_contains_slot ⟨_, ho, rfl⟩ PySem.F.slot_list_contains (inOwn_core hs hf F hr hx I hp he fun s' I' => ?_))
  exact wpAny_truthy_bool (wpAny_pure ⟨.bl _, H, I', rfl, q⟩)
theorem op_notInOwn (hs : PySem.W.findIn X.K (.ref C) "__eq__" = some (some (.ref g))) (hf : PySem.W.isFn X.K (.ref g) = true) (F : FnR X.prog X.w X.K X.mg X.base CX k g sp) (hr : Room (k + 1) X.A) (hx : Passes CX X E) : OpR X (compareOp .NotIn) (rInOwn X.K C sp E true) := by
  intro pins s σ H x y v u Q I rx ry h
  obtain ⟨p, b, ss, e, rfl, rfl, hp, he, q⟩ := h
  cases (show v = Value.ref b from rx)
  cases (show u = Value.ref p from ry)
  obtain ⟨n, ho⟩ := lst_obj hp s I
  show wpAny _ X.A (do return Value.bool (!(← contains (.ref p) (.ref b)))) _ _ s
  refine wpAny_bind (wpAny_contains_slot ⟨_, ho, rfl⟩ PySem.F.slot_list_contains (inOwn_core hs hf F hr hx I hp he fun s' I' => ?_))
  exact wpAny_truthy_bool (wpAny_pure ⟨.bl _, H, I', rfl, q⟩)
/-- xs == ys -/
def rEqOwn (K : PySem.W.Frag) (C : Addr) (sp : Sp) (E : XK) : R2 := fun x y H Q => ∃ (p q : Addr) (ss ts : List Addr) (e : Addr → Addr → Bool), x = .ref p ∧ y = .ref q ∧ H p = some (.lst (ss.map V.ref)) ∧ H q = some (.lst (ts.map V.ref)) ∧ (∀ a ∈ ss, ∀ b ∈ ts, OwnEq1 K C sp E H a b (e a b)) ∧
  Q (.bl (decide (ss.length = ts.length) && (ss.zip ts).all fun p => e p.1 p.2)) H
theorem op_eqOwn (hs : PySem.W.findIn X.K (.ref C) "__eq__" = some (some (.ref g))) (hf : PySem.W.isFn X.K (.ref g) = true) (F : FnR X.prog X.w X.K X.mg X.base CX k g sp) (hr : Room (k + 1) X.A) (hx : Passes CX X E) : OpR X (compareOp .Eq) (rEqOwn X.K C sp E) := by
  intro pins s σ H x y v u Q I rx ry h
  obtain ⟨p, q, ss, ts, e, rfl, rfl, hp, hq, he, z⟩ := h
  cases (show v = Value.ref p from rx)
  cases (show u = Value.ref q from ry)
  obtain ⟨n, ho⟩ := lst_obj hp s I
  obtain ⟨n2, ho2⟩ := lst_obj hq s I
  show wpAny _ X.A (richCompare .Eq (.ref p) (.ref q)) _ _ s
  refine wpAny_richCompare_same_room ⟨_, ho, rfl⟩ ⟨_, ho2, rfl⟩ PySem.F.slot_list_eq (call_meetsIn PySem.F.slot_list_eq ⟨_, ho, rfl⟩ PySem.F.entry_list_eq (PySem.F.args_list_eq_2 _ _) (eqG (Inv X pins σ H) p q (ss.map Value.ref) (ts.map Value.ref) (fun i => match (ss.zip ts)[i]? with | some p => e p.1 p.2 | none => true)) ⟨I, lst_obj hp, lst_obj hq, fun j x y hx' hy => ?_, fun s' I' => ?_⟩) hr.units0
  · rw [List.getElem?_map] at hx' hy
    cases ha : ss[j]? with
    | none => rw [ha] at hx'; cases hx'
    | some a =>
      cases hb : ts[j]? with
      | none => rw [hb] at hy; cases hy
      | some b =>
        rw [ha] at hx'
        rw [hb] at hy
        cases hx'
        cases hy
        rw [(List.getElem?_zip_eq_some (z := (a, b))).mpr ⟨ha, hb⟩]
        refine eqG_own hs hf F hr hx (he a (List.mem_of_getElem? ha) b (List.mem_of_getElem? hb))
  · rw [List.length_map, List.length_map]
    have e1 : (decide (ss.length = ts.length) && (List.range ss.length).all fun i => match (ss.zip ts)[i]? with | some p => e p.1 p.2 | none => true) = (decide (ss.length = ts.length) && (ss.zip ts).all fun p => e p.1 p.2) := by
      by_cases hl : ss.length = ts.length
      · have hz : (ss.zip ts).length = ss.length := by rw [List.length_zip, ← hl, Nat.min_self]
        have hr := range_all (l := ss.zip ts) (f := fun p => e p.1 p.2) (e := fun i => match (ss.zip ts)[i]? with | some p => e p.1 p.2 | none => true) (fun i a ha => by rw [ha])
        rw [hz] at hr
        rw [hr]
      · rw [decide_eq_false hl, Bool.false_and, Bool.false_and]
    rw [e1]
    exact ⟨fun z => (by cases z), .bl _, H, I', rfl, z⟩
end
end EL
namespace EL
open PySem PySem.Spec PyProof.Rows L2 He TL
theorem walk_zipT {K : PySem.W.Frag} {a b : Addr} {xs ys : List V} {n : Nat} (hn : n = min xs.length ys.length) : L2.Walk (RZ.ItzT K a b) n (fun H => SqT K H a xs ∧ SqT K H b ys) (YPair (fun i => xs[i]?) (fun i => ys[i]?)) := by
  subst hn
  refine ⟨fun i _ hi q => ?_, fun _ q => ⟨xs, ys, q.1, q.2, by omega⟩, fun i H v H' _ q y => ?_⟩
  · have h1 : i < xs.length := by omega
    have h2 : i < ys.length := by omega
    exact ⟨xs, ys, xs[i], ys[i], q.1, q.2, by simp [h1], by simp [h2]⟩
  · obtain ⟨T, x, z, h1, h2, h3, h4, h5⟩ := y
    exact ⟨T, x, z, h1, h2, h3, h4 xs q.1, h5 ys q.2⟩
end EL
namespace EL
open PySem PySem.Spec PyProof.Rows L2 He TL
/-! ### operators by own defs that raise inside a try: the errors' postcondition hangs on the slots -/
def tOpX (C : Addr) (sp : Sp) (E : L2.St → XK) (ta tb : TE) : TE := fun σ H Q => ta σ H fun x H1 => tb σ H1 fun y H2 => rBinO C sp (E σ) x y H2 Q
def tAugX (i : Nat) (C : Addr) (sp : Sp) (E : L2.St → XK) (te : TE) : TS := fun D σ H => ∃ x, σ[i]? = some (some x) ∧ te σ H fun y H1 => ∃ a dx fs, x = .ref a ∧ H1 a = some (.ins C dx fs) ∧ sp [x, y] H1 (fun z H2 => D.nx (σ.set i (some z)) H2) (E σ)
section
variable {X : Cx} {CX : CXT} {k : Nat} {C g : Addr} {sp : Sp} {E : L2.St → XK} {op : Operator} {a b : Expr} {ta tb : TE} {pos : Pos}
theorem pe_binOX (hc : PySem.W.selfFirst X.K C = true) (hs : PySem.W.findIn X.K (.ref C) (PySem.dunder op.info.2) = some (some (.ref g))) (hf : PySem.W.isFn X.K (.ref g) = true) (F : FnR X.prog X.w X.K X.mg X.base CX k g sp)
    (hr : Room k X.A) (hx : ∀ σ, PassesAt CX X σ (E σ)) (ha : PE X a ta) (hb : PE X b tb) : PE X (.BinOp a op b pos) (tOpX C sp E ta tb) := by
  refine ⟨fun pins s σ H Q I h => ?_⟩
  refine wpAny_BinOp (binT ha hb I h fun v u s2 x y H2 I2 rx ry q => ?_)
  obtain ⟨a', dx, fs, b', dy, gs, rfl, rfl, ha', hb', q⟩ := q
  cases (show v = Value.ref a' from rx)
  cases (show u = Value.ref b' from ry)
  obtain ⟨ox, od, J, _⟩ := ins_at I2 ha'
  obtain ⟨ox', od', J', _⟩ := ins_at I2 hb'
  obtain ⟨m, hF⟩ := I2.fr
  refine PySem.W.binop_K hF I2.ok.mod.kin J J'.type hc hs hf ?_
  refine wpAny_mono (run_fnRS (us := [.ref a', .ref b']) (vs := [.ref a', .ref b']) F hr (hx σ) I2 (.cons rfl (.cons rfl .nil)) q) (fun w s' z => ?_) fun _ _ x => x
  obtain ⟨z', H', I', rz, qz⟩ := z
  exact SlX.cmpback rz ⟨z', H', I', rz, qz⟩
theorem ps_augOX {i : Nat} {x : Str} {e : Expr} {te : TE} {pos' : Pos} (hN : X.N.Nodup) (hi : X.N[i]? = some x) (hx : Loc X.env.scope x) (hc : PySem.W.selfFirst X.K C = true) (hs : PySem.W.findIn X.K (.ref C) (PySem.dunderI op.info.2) = some (some (.ref g))) (hf : PySem.W.isFn X.K (.ref g) = true)
    (F : FnR X.prog X.w X.K X.mg X.base CX k g sp) (hr : Room k X.A) (hp : ∀ σ, PassesAt CX X σ (E σ)) (he : PE X e te) (hl' : X.fn x = true ∨ X.env.scope.names.lookup x = some .local := by first | exact .inl rfl | exact .inr rfl | assumption) :
    PS X (.AugAssign (.Name x pos') op e pos) (tAugX i C sp E te) := by
  refine ⟨fun pins s σ H D I h => ?_⟩
  obtain ⟨v, e1, h⟩ := h
  obtain ⟨m, hn, hl⟩ := I.loc
  have vis : Vis X.env.scope x := by rcases hx with k | k; exact .inl k; exact .inr (.inl k)
  obtain ⟨u, r, l⟩ := hl i x v hi e1 vis
  refine wpAny_AugAssign_Name ?_
  have go : wpAny (model X.prog X.w) X.A (eval e X.env) (fun w s₂ => wpAny (model X.prog X.w) X.A (inplaceOp op u w) (fun r s₃ => wpAny (model X.prog X.w) X.A (storeName X.env x r) (fun _ => SP X pins D .next) X.xe s₃) X.xe s₂) X.xe s := by
    refine thn (he.run pins s σ H _ I h) fun w s1 ⟨y, H1, I1, r1, q1⟩ => ?_
    have step : wpAny (model X.prog X.w) X.A (inplaceOp op u w) (EP X pins σ fun z H2 => D.nx (σ.set i (some z)) H2) X.xe s1 := by
      obtain ⟨a, dx, fs, rfl, ha, q⟩ := q1
      cases (show u = Value.ref a from r)
      obtain ⟨ox, od, J, _⟩ := ins_at I1 ha
      obtain ⟨m, hF⟩ := I1.fr
      refine PySem.W.ksp_inplace hF I1.ok.mod.kin J hc hs hf ?_
      refine wpAny_mono (run_fnRS (us := [.ref a, w]) (vs := [.ref a, y]) F hr (hp σ) I1 (.cons rfl (.cons r1 .nil)) q) (fun w s' z => ?_) fun _ _ x => x
      obtain ⟨z', H', I', rz, qz⟩ := z
      exact SlX.cmpback rz ⟨z', H', I', rz, qz⟩
    refine thn step fun z s2 ⟨zv, H2, I2, r2, q2⟩ => ?_
    exact store_ok I2 hN hi hx r2 (fun s3 I3 => ⟨_, H2, I3, q2⟩) hl'
  rcases l with ⟨hk, hm⟩ | ⟨hk, c, hc, hcell⟩
  · exact wpAny_loadName_local I.ok.kind hk hn hm go
  · rcases hk with hk | hk
    · exact wpAny_loadName_cell I.ok.kind hk hc hcell go
    · rcases hx with k | k
      · have : X.env.scope.names.lookup x = some .free := hk
        rw [k] at this; cases this
      · have : X.env.scope.names.lookup x = some .free := hk
        rw [k] at this; cases this
end
end EL
namespace EL
open PySem PySem.Spec PyProof.Rows L2 He TL
open AutoSeq1 (wpAny_loadPart')
open MeetsSeq MeetsSeq2 MeetsSeq3 SeqRoads2
/-! ### dicts with the same keys whose values are data -/
structure DDat (K : PySem.W.Frag) (H : Hp) (ks ls : List (Key × V)) (ds es : List PyData) : Prop where
  keys : ks.map Prod.fst = ls.map Prod.fst
  nd : (ls.map Prod.fst).Nodup
  dk : DpAll K H (ks.map Prod.snd) ds
  dl : DpAll K H (ls.map Prod.snd) es
  sk : ∀ d ∈ ds, SeqAt.shaped d = true
  sl : ∀ e ∈ es, SeqAt.shaped e = true
theorem hits_D {X : Cx} {A : Around} {pins : List (Addr × Obj)} {σ : L2.St} {H : Hp} {s : Shared} (I : Inv X pins σ H s) (hu : A.in1.units + 64 < cLine) {ls : List (Key × V)} {vb : List (Key × Value)} (rb : KV ls vb) :
    ∀ {ks ls' : List (Key × V)} {va : List (Key × Value)} {ds es : List PyData}, KV ks va → ks.map Prod.fst = ls'.map Prod.fst → (∀ p ∈ ls', valV ls p.1 = some p.2) → DpAll X.K H (ks.map Prod.snd) ds → DpAll X.K H (ls'.map Prod.snd) es → (∀ d ∈ ds, SeqAt.shaped d = true) → (∀ e ∈ es, SeqAt.shaped e = true) →
      PySem.W.KeqHits A.in1 s vb va (PyData.eqv (.list ds) (.list es))
  | [], [], _, _, _, r, _, _, hd, he, _, _ => by
    cases r
    cases hd
    cases he
    exact .nil
  | [], _ :: _, _, _, _, _, hk, _, _, _, _, _ => by cases hk
  | _ :: _, [], _, _, _, _, hk, _, _, _, _, _ => by cases hk
  | (k, v) :: ks, (k2, v2) :: ls', _, _, _, r, hk, hv, hd, he, sd, se => by
    cases r with
    | @cons _ q _ qs h t =>
      obtain ⟨k', v'⟩ := q
      obtain ⟨h1, h2⟩ := h
      have h1 : k = k' := h1
      subst h1
      obtain ⟨hk1, hk2⟩ := List.cons_eq_cons.mp (show k :: ks.map Prod.fst = k2 :: ls'.map Prod.fst from hk)
      subst hk1
      cases hd with
      | cons d1 d2 =>
        cases he with
        | cons e1 e2 =>
          have ih := hits_D I hu rb t hk2 (fun p hp => hv p (by simp [hp])) d2 e2 (fun d hd => sd d (by simp [hd])) fun e he => se e (by simp [he])
          have rk := rb.val k
          rw [hv (k, v2) (by simp)] at rk
          cases hb : valueAt vb k with
          | none => rw [hb] at rk; cases rk
          | some y' =>
            rw [hb] at rk
            obtain ⟨as, r1⟩ := Dp.reads I _ v v' d1 h2
            obtain ⟨bs, r2⟩ := Dp.reads I _ v2 y' e1 rk
            exact .hit hb (PySem.W.keq_at r1 r2 (sd _ (List.mem_cons_self ..)) (se _ (List.mem_cons_self ..)) hu) ih
theorem val_nodup : ∀ {ls : List (Key × V)}, (ls.map Prod.fst).Nodup → ∀ p ∈ ls, valV ls p.1 = some p.2
  | [], _, p, hp => by cases hp
  | q :: r, nd, p, hp => by
    obtain ⟨n1, n2⟩ := List.nodup_cons.mp (show (q.1 :: r.map Prod.fst).Nodup from nd)
    rcases List.mem_cons.mp hp with rfl | hp
    · exact valV_pos rfl
    · rw [valV_neg (fun e => n1 (List.mem_map.mpr ⟨p, hp, e.symm⟩)), val_nodup n2 p hp]
def rEqDD (K : PySem.W.Frag) (neg : Bool) : R2 := fun x y H Q => ∃ a b ks ls ds es, x = .ref a ∧ y = .ref b ∧ H a = some (.dK ks) ∧ H b = some (.dK ls) ∧ DDat K H ks ls ds es ∧ Q (.bl (if neg then !PyData.eqv (.list ds) (.list es) else PyData.eqv (.list ds) (.list es))) H
theorem op_neDD {X : Cx} (hu : X.A.units + 65 < cLine) : OpR X (compareOp .NotEq) (rEqDD X.K true) := by
  intro pins s σ H x y v u Q I rx ry h
  obtain ⟨a, b, ks, ls, ds, es, rfl, rfl, ea, eb, D, q⟩ := h
  cases (show v = Value.ref a from rx)
  cases (show u = Value.ref b from ry)
  obtain ⟨_, ya, va, ra, da⟩ := (show ObjOk X.prog X.w H s.heap a (.dK ks) from I.hok a _ ea)
  obtain ⟨_, yb, vb, rb, db⟩ := (show ObjOk X.prog X.w H s.heap b (.dK ls) from I.hok b _ eb)
  refine PySem.W.keq_ne (knd := mixKind X.prog X.w) (r := PyData.eqv (.list ds) (.list es)) ya yb da db (by omega) (fun _ => hits_D I (by show X.A.units + 1 + 64 < cLine; omega) rb ra D.keys (val_nodup D.nd) D.dk D.dl D.sk D.sl) ?_
  have e : (va.length == vb.length) = true := by
    have h1 := congrArg List.length D.keys
    rw [List.length_map, List.length_map, ra.length, rb.length] at h1
    rw [h1]
    exact beq_self_eq_true _
  rw [e, Bool.true_and]
  exact ⟨.bl _, H, I, rfl, q⟩
/-- two states: lists of a dict and a list of data -/
def rEqSt (K : PySem.W.Frag) : R2 := fun x y H Q => ∃ p q a b c d ks ls ds es f g, x = .ref p ∧ y = .ref q ∧ H p = some (.lst [.ref a, .ref c]) ∧ H q = some (.lst [.ref b, .ref d]) ∧ H a = some (.dK ks) ∧ H b = some (.dK ls) ∧ DDat K H ks ls ds es ∧ (a = b → PyData.eqv (.list ds) (.list es) = true) ∧
  Dp K H (.ref c) f ∧ Dp K H (.ref d) g ∧ SeqAt.shaped f = true ∧ SeqAt.shaped g = true ∧ (c = d → PyData.eqv f g = true) ∧ Q (.bl (PyData.eqv (.list ds) (.list es) && PyData.eqv f g)) H
theorem op_eqSt {X : Cx} (hu : X.A.units + 66 < cLine) : OpR X (compareOp .Eq) (rEqSt X.K) := by
  intro pins s σ H x y v u Q I rx ry h
  obtain ⟨p, q, a, b, c, d, ks, ls, ds, es, f, g, rfl, rfl, ep, eq, ea, eb, D, hab, hf, hg, sf, sg, hcd, z⟩ := h
  cases (show v = Value.ref p from rx)
  cases (show u = Value.ref q from ry)
  have ep' : H p = some (.lst ([a, c].map V.ref)) := ep
  have eq' : H q = some (.lst ([b, d].map V.ref)) := eq
  obtain ⟨n, ho⟩ := lst_obj ep' s I
  obtain ⟨n2, ho2⟩ := lst_obj eq' s I
  show wpAny _ X.A (richCompare .Eq (.ref p) (.ref q)) _ _ s
  refine wpAny_richCompare_same_room ⟨_, ho, rfl⟩ ⟨_, ho2, rfl⟩ PySem.F.slot_list_eq (call_meetsIn PySem.F.slot_list_eq ⟨_, ho, rfl⟩ PySem.F.entry_list_eq (PySem.F.args_list_eq_2 _ _) (eqG (Inv X pins σ H) p q ([a, c].map Value.ref) ([b, d].map Value.ref) (fun i => if i = 0 then PyData.eqv (.list ds) (.list es) else PyData.eqv f g)) ⟨I, lst_obj ep', lst_obj eq', fun j x y hx' hy => ?_, fun s' I' => ?_⟩) (by omega)
  · match j, hx', hy with
    | 0, hx', hy =>
      cases hx'
      cases hy
      intro s Q I q
      rw [if_pos rfl] at q
      unfold eqBool
      refine wpAny_holding ?_
      refine wpAny_ite_split (fun e => ?_) (fun _ => ?_)
      · have := eq_of_beq e
        injection this with this
        rw [hab this] at q
        exact wpAny_bind (wpAny_rule (wpAny_pure (q s I)))
      · obtain ⟨_, ya, va, ra, da⟩ := (show ObjOk X.prog X.w H s.heap a (.dK ks) from I.hok a _ ea)
        obtain ⟨_, yb, vb, rb, db⟩ := (show ObjOk X.prog X.w H s.heap b (.dK ls) from I.hok b _ eb)
        refine wpAny_bind (PySem.W.keq_eq (knd := mixKind X.prog X.w) (r := PyData.eqv (.list ds) (.list es)) ya yb da db (by show X.A.units + 1 < cLine; omega) (fun _ => hits_D I (by show X.A.units + 1 + 1 + 64 < cLine; omega) rb ra D.keys (val_nodup D.nd) D.dk D.dl D.sk D.sl) ?_)
        have e : (va.length == vb.length) = true := by
          have h1 := congrArg List.length D.keys
          rw [List.length_map, List.length_map, ra.length, rb.length] at h1
          rw [h1]
          exact beq_self_eq_true _
        rw [e, Bool.true_and]
        exact wpAny_truthy_bool (q s I)
    | 1, hx', hy =>
      cases hx'
      cases hy
      intro s Q I q
      rw [if_neg (by decide)] at q
      obtain ⟨as, r1⟩ := Dp.reads I f _ _ hf (show RelV (.ref c) (.ref c) from rfl)
      obtain ⟨bs, r2⟩ := Dp.reads I g _ _ hg (show RelV (.ref d) (.ref d) from rfl)
      exact PySem.W.keq_at r1 r2 sf sg (by show X.A.units + 1 + 64 < cLine; omega) X.prog X.w _ _ (q s I)
    | j + 2, hx', _ => cases hx'
  · have e1 : (decide (([a, c].map Value.ref).length = ([b, d].map Value.ref).length) && (List.range ([a, c].map Value.ref).length).all fun i => if i = 0 then PyData.eqv (.list ds) (.list es) else PyData.eqv f g) = (PyData.eqv (.list ds) (.list es) && PyData.eqv f g) := by
      show (true && (PyData.eqv (.list ds) (.list es) && (PyData.eqv f g && true))) = _
      rw [Bool.true_and, Bool.and_true]
    rw [e1]
    exact ⟨fun z => (by cases z), .bl _, H, I', rfl, z⟩
end EL
namespace EL
open PySem PySem.Spec PyProof.Rows L2 He TL
/-! ### where an exception is being handled: the ends of iterators, list(d), all(xs), a list comprehension over a dict's keys, own == and != -/
section
variable {prog : Program} {w : World} {A : Around} {E : Value → Shared → Prop} {s : Shared}
theorem hot_ext {it a : Addr} {h0 h1 h2 h3 : Heap} {f : Obj → Obj} {o2 o3 : Obj} (ex : Heap.ExtBut it h0 h1) (e2 : h2 = h1.push o2) (e3 : h3 = h2.push o3) (ea : a = h2.objs.size) : Heap.ExtBut it h0 (h3.update a f) := fun b o hb e => by
  have g1 := ex b o hb e
  have g2 : h2.get? b = some o := by rw [e2]; exact Heap.get?_push_of_some _ g1
  have g3 : h3.get? b = some o := by rw [e3]; exact Heap.get?_push_of_some _ g2
  rw [Heap.get?_update_other _ _ (by rw [ea]; exact Nat.ne_of_gt (Heap.lt_size g2))]
  exact g3
theorem keys_end_hot {it d x1 : Addr} {i n ep : Nat} {od : Obj} {es : Array DictEntry} {Q : Option Value → Shared → Prop} (hot : HotX.HotAt A x1 s.heap) (nx : x1 ≠ it) (hit : s.heap.IsKeyIter it d i n ep) (hod : s.heap.get? d = some od) (hdd : od.data = .dict es ep)
    (hsz : es.size = n) (hge : n ≤ i) (hQ : ∀ h', Heap.ExtBut it s.heap h' → Q none { s with heap := h' }) : wpAny (model prog w) A (pyNext (.ref it)) Q E s := by
  obtain ⟨hh, o1, vs1, g1, d1, c1⟩ := hot
  obtain ⟨oi, hoi, hci, hdi⟩ := id hit
  have big : es.size ≤ i := by omega
  unfold pyNext
  refine wpAny_bind (wpAny_attempt (wpAny_callSpecial?_slot (name := Str.ofString "__next__") hit.typeIs F.slot_dict_keyiterator_next (wpAny_call_entry F.slot_dict_keyiterator_next hit.typeIs F.entry_dict_keyiterator_next ?_ (F.args_dict_keyiterator_next_1 _))))
  refine wpAny_bind (wpAny_pure (wpAny_bind (wpAny_bind ?_)))
  first | refine wpAny_bind (wpAny_typeNameOfWhole_keyiter hit.typeIs (wpAny_pure ?_)) | refine wpAny_bind (wpAny_typeNameOf_keyiter hit.typeIs (wpAny_pure ?_))
  refine wpAny_bind (wpAny_fieldsOf hoi hdi ?_)
  simp only [show Builtin.Dict_items.ownsTuple "dict_keyiterator" = false by decide, Bool.false_eq_true, if_false]
  show wpAny _ _ (if (Value.ref d == Value.none) = true then _ else _) _ _ s
  rw [if_neg (show ¬ ((Value.ref d == Value.none) = true) from Bool.false_ne_true)]
  refine wpAny_bind (wpAny_pure (wpAny_bind (wpAny_dictEntries hod hdd ?_)))
  rw [if_neg (by rw [hsz]; simp)]
  refine wpAny_bind (wpAny_pure (wpAny_bind (wpAny_dictEpoch hod hdd ?_)))
  rw [if_neg (by simp)]
  refine wpAny_pure ?_
  simp only [show ¬ ((i : Int) < 0) by omega, if_false, Int.toNat_natCast, Array.getElem?_eq_none big]
  refine wpAny_bind ?_
  first | refine wpAny_bind (wpAny_typeNameOfWhole_keyiter hit.typeIs (wpAny_pure ?_)) | refine wpAny_bind (wpAny_typeNameOf_keyiter hit.typeIs (wpAny_pure ?_))
  show wpAny _ _ (setField (.ref it) 0 .none >>= _) _ _ s
  refine wpAny_bind (wpAny_setField hoi hdi (by simp) ?_)
  show wpAny _ _ (newExc (.type "StopIteration") [] >>= _) _ _ _
  refine wpAny_bind ?_
  simp only [newExc, newTuple]
  refine wpAny_bind (wpAny_newObj_type ?_ (by size_fits))
  refine wpAny_bind (m := firstArgMember _ _) (wpAny_of_eq (a := Value.none) (by first | rfl | (simp only [firstArgMember]; rfl)) ?_)
  refine wpAny_newObj_type ?_ (by size_fits)
  have q1 : (s.heap.update it (Obj.mapFields fun x => x.setIfInBounds 0 Value.none)).get? x1 = some o1 := (Heap.get?_update_other s.heap _ (Ne.symm nx)).trans g1
  refine HotX.raiseNew_hot ⟨hh, o1, vs1, Heap.get?_push_of_some _ (Heap.get?_push_of_some _ q1), d1, c1⟩ (Nat.ne_of_lt (Heap.lt_size (Heap.get?_push_of_some _ q1))) (Heap.get?_push_size _ rfl) rfl (by first | (simp; done) | (simp; omega) | (simp only [Array.size_append]; simp; omega)) ?_
  refine wpAny_bind (wpAny_isInstance (T := "StopIteration") (b := true) ⟨_, Heap.get?_update_self _ (Heap.get?_push_size _ rfl) rfl, rfl⟩ isSubtype_stop (wpAny_pure (hQ _ ?_)))
  exact hot_ext (Heap.SameBut.update ..).extBut rfl rfl rfl
theorem list_end_hot {it l x1 : Addr} {i : Nat} {items : Array Value} {Q : Option Value → Shared → Prop} (hot : HotX.HotAt A x1 s.heap) (nx : x1 ≠ it) (hit : s.heap.IsListIter it l i) (hl : s.heap.IsList l items) (hx : items[i]? = none)
    (hQ : ∀ h', Heap.ExtBut it s.heap h' → Q none { s with heap := h' }) : wpAny (model prog w) A (pyNext (.ref it)) Q E s := by
  obtain ⟨hh, o1, vs1, g1, d1, c1⟩ := hot
  obtain ⟨oi, hoi, hci, hdi⟩ := id hit
  obtain ⟨ol, hol, _, nl, hdl⟩ := hl
  unfold pyNext
  refine wpAny_bind (wpAny_attempt (wpAny_callSpecial?_slot (name := Str.ofString "__next__") hit.typeIs slot_listiter_next (wpAny_call_entry slot_listiter_next hit.typeIs entry_listiter_next ?_ (args_listiter_next _))))
  show wpAny _ _ (field (.ref it) 0 >>= _) _ _ s
  refine wpAny_bind (wpAny_field hoi hdi (x := .ref l) rfl ?_)
  show wpAny _ _ (if (Value.ref l == Value.none) = true then _ else _) _ _ s
  rw [if_neg (show ¬ ((Value.ref l == Value.none) = true) from Bool.false_ne_true)]
  show wpAny _ _ (field (.ref it) 1 >>= _) _ _ s
  refine wpAny_bind (wpAny_field hoi hdi (x := .int i 0) rfl ?_)
  show wpAny _ _ (seqItems? (.ref l) >>= _) _ _ s
  refine wpAny_bind (wpAny_seqItems hol hdl ?_)
  simp only [Int.toNat_natCast, hx]
  refine wpAny_bind (wpAny_rule (wpAny_bind (wpAny_setField hoi hdi (by simp) ?_)))
  show wpAny _ _ (newExc (.type "StopIteration") [] >>= _) _ _ _
  refine wpAny_bind ?_
  simp only [newExc, newTuple]
  refine wpAny_bind (wpAny_newObj_type ?_ (by size_fits))
  refine wpAny_bind (m := firstArgMember _ _) (wpAny_of_eq (a := Value.none) (by first | rfl | (simp only [firstArgMember]; rfl)) ?_)
  refine wpAny_newObj_type ?_ (by size_fits)
  have q1 : (s.heap.update it (Obj.mapFields fun x => x.setIfInBounds 0 Value.none)).get? x1 = some o1 := (Heap.get?_update_other s.heap _ (Ne.symm nx)).trans g1
  refine HotX.raiseNew_hot ⟨hh, o1, vs1, Heap.get?_push_of_some _ (Heap.get?_push_of_some _ q1), d1, c1⟩ (Nat.ne_of_lt (Heap.lt_size (Heap.get?_push_of_some _ q1))) (Heap.get?_push_size _ rfl) rfl (by first | (simp; done) | (simp; omega) | (simp only [Array.size_append]; simp; omega)) ?_
  refine wpAny_bind (wpAny_isInstance (T := "StopIteration") (b := true) ⟨_, Heap.get?_update_self _ (Heap.get?_push_size _ rfl) rfl, rfl⟩ isSubtype_stop (wpAny_pure (hQ _ ?_)))
  exact hot_ext (Heap.SameBut.update ..).extBut rfl rfl rfl
theorem hot_keep {x1 : Addr} {h h' : Heap} (c : HotX.HotAt A x1 h) (e : ∀ o, h.get? x1 = some o → h'.get? x1 = some o) : HotX.HotAt A x1 h' := by
  obtain ⟨hh, o1, vs1, g1, r⟩ := c
  exact ⟨hh, o1, vs1, e _ g1, r⟩
theorem walk_listH (x1 I ax : Addr) (n1 : x1 ≠ I) (hne : ax ≠ I) (items : Array Value) : Walks prog w A I [I, ax, x1] [I] items.size (fun i v => items[i]? = some v) (fun i h => h.IsListIter I ax i ∧ h.IsList ax items ∧ HotX.HotAt A x1 h) where
  sub := fun b hb => by cases List.mem_singleton.mp hb; simp
  frame := fun _ _ _ st k => ⟨st.1.at fun o e => k I (by simp) o e, st.2.1.at fun o e => k ax (by simp) o e, hot_keep st.2.2 fun o e => k x1 (by simp) o e⟩
  item := fun i s Q E hi st q => by
    refine wpAny_pyNext_list_item st.1 st.2.1 (x := items[i]) (by simp [hi]) fun h' hit' sb => ?_
    exact q _ h' s.toks (by simp [hi]) ⟨hit', st.2.1.extBut sb.extBut hne, hot_keep st.2.2 fun o e => sb.extBut _ o n1 e⟩ fun b o hb e => sb.extBut b o (fun z => hb (by simp [z])) e
  done := fun s Q E st q => list_end_hot st.2.2 n1 st.1 st.2.1 (by simp) fun h' ex => q h' s.toks fun b o hb e => ex b o (fun z => hb (by simp [z])) e
  self := fun _ _ _ _ st q => wpAny_pyIter_listiter st.1 q
theorem walk_keysH {κ : Type} [DecidableEq κ] {knd : KeyKind prog w κ} (x1 I d : Addr) (n1 : x1 ≠ I) (hne : d ≠ I) (kvs : List (κ × Value)) (ep : Nat) :
    Walks prog w A I [I, d, x1] [I] kvs.length (fun i v => ∃ k x, kvs[i]? = some (k, x) ∧ knd.is k v = true) (fun i h => h.IsKeyIter I d i kvs.length ep ∧ h.DictAt knd d kvs ep ∧ HotX.HotAt A x1 h) where
  sub := fun b hb => by cases List.mem_singleton.mp hb; simp
  frame := fun _ _ _ st k => ⟨st.1.at fun o e => k I (by simp) o e, st.2.1.at' fun o e => k d (by simp) o e, hot_keep st.2.2 fun o e => k x1 (by simp) o e⟩
  item := fun i s Q E hi st q => by
    obtain ⟨⟨k, x⟩, hx⟩ : ∃ p, kvs[i]? = some p := ⟨kvs[i], by simp [hi]⟩
    refine wpAny_pyNext_dict_item st.1 st.2.1 hx fun key h' hkey hit' sb => ?_
    exact q key h' s.toks ⟨k, x, hx, hkey⟩ ⟨hit', st.2.1.extBut sb.extBut hne, hot_keep st.2.2 fun o e => sb.extBut _ o n1 e⟩ fun b o hb e => sb.extBut b o (fun z => hb (by simp [z])) e
  done := fun s Q E st q => by
    obtain ⟨o, es, ho, _, hd, _, hp, _⟩ := id st.2.1
    have hsz : es.size = kvs.length := by
      have := hp.length
      simpa using this
    exact keys_end_hot st.2.2 n1 st.1 ho hd hsz (Nat.le_refl _) fun h' ex => q h' s.toks fun b o hb e => ex b o (fun z => hb (by simp [z])) e
  self := fun _ _ _ _ st q => wpAny_pyIter_keyiter st.1 q
section
variable {κ : Type} [DecidableEq κ] {knd : KeyKind prog w κ} {d x1 : Addr} {kvs : List (κ × Value)} {ep : Nat}
/-- list.__init__ of a new list and a dict -/
theorem init_hot {R : Result → Shared → Prop} (lo : (d == sysModules) = false) (hot : HotX.HotAt A x1 s.heap) (hm : s.heap.DictAt knd d kvs ep) {S : Addr} (n1 : S ≠ d) (n2 : S ≠ x1) (hS : s.heap.get? S = some { cls := .type "list", data := .seq #[] }) (hn : kvs.length ≤ sizeLine)
    (hR : ∀ h' tk acc c, (∀ b o, b ≠ S → s.heap.get? b = some o → h'.get? b = some o) → h'.get? S = some { cls := .type "list", dict := none, data := .seq acc c, slots := #[] } → ItemsOf (fun i v => ∃ k x, kvs[i]? = some (k, x) ∧ knd.is k v = true) acc kvs.length → R (.ok (.ret .none)) { s with heap := h', toks := tk }) :
    wpAny (model prog w) A.in1 (Builtin.«list.__init__» ⟨[.ref S, .ref d], []⟩) (fun fin s' => match fin with | .done f => R (.ok f) s' | .again c' => c'.quiet = true ∧ codeAny (model prog w) A c' R s') (fun e s' => R (.error e) s') s := by
  show wpAny _ _ (do let old ← Builtin.List.listItems (.ref S); Builtin.List.listUpdate (.ref S) (fun _ => #[]); letGo old.toList.reverse; Builtin.List.listExtendWith (.ref S) (.ref d) .none) _ _ s
  refine wpAny_bind ?_
  unfold Builtin.List.listItems
  refine wpAny_bind (wpAny_seqItems hS rfl (wpAny_pure ?_))
  show wpAny _ _ (updateSeq S (fun _ => #[]) >>= fun _ => letGo (#[] : Array Value).toList.reverse >>= fun _ => Builtin.List.listExtendWith (.ref S) (.ref d) .none) _ _ s
  refine wpAny_bind (wpAny_updateSeq hS rfl ?_)
  have hS2 := Heap.get?_update_self (Obj.mapSeq (fun _ => (#[] : Array Value))) hS rfl
  have oth : ∀ b o, b ≠ S → s.heap.get? b = some o → (s.heap.update S (Obj.mapSeq (fun _ => (#[] : Array Value)))).get? b = some o := fun b o hb e => (Heap.get?_update_other _ _ (Ne.symm hb)).trans e
  refine wpAny_bind (wpAny_letGo ?_)
  generalize hh2 : s.heap.update S (Obj.mapSeq (fun _ => (#[] : Array Value))) = h2 at hS2 oth
  have hm2 : h2.DictAt knd d kvs ep := hm.at' fun o e => oth _ o (Ne.symm n1) e
  have hot2 : HotX.HotAt A x1 h2 := hot_keep hot fun o e => oth _ o (Ne.symm n2) e
  have lS : S < h2.objs.size := Heap.lt_size hS2
  have ld : d < h2.objs.size := hm2.lt_size
  have lx : x1 < h2.objs.size := by obtain ⟨_, o1, _, g, _⟩ := hot2; exact Heap.lt_size g
  unfold Builtin.List.listExtendWith
  refine wpAny_bind (wpAny_typeOf (T := "dict") (show Shared.TypeIs { s with heap := h2 } (.ref d) "dict" from hm2.dictOf.typeIs) ?_)
  simp only [show Builtin.List.listSameRef (.ref S) (.ref d) = false by simp [Builtin.List.listSameRef, n1], show (Value.type "dict" == Value.type "list") = false by decide, show (Value.type "dict" == Value.type "tuple") = false by decide, Bool.or_false, Bool.false_eq_true, if_false]
  refine wpAny_bind (wpAny_pyIter_dict lo hm2 ?_)
  have W := walk_keysH (prog := prog) (w := w) (A := A.in1) (knd := knd) x1 h2.objs.size d (Nat.ne_of_lt lx) (Nat.ne_of_lt ld) kvs ep
  have hSf : S ∉ [h2.objs.size, d, x1] := by
    simp only [List.mem_cons, List.not_mem_nil, or_false, not_or]
    exact ⟨Nat.ne_of_lt lS, n1, n2⟩
  have st0 : ∀ {h3 : Heap}, (∀ b o, b ≠ S → (h2.push { cls := .type "dict_keyiterator", data := .fields #[.ref d, .int 0 0, .int kvs.length 0, .int ep 0] }).get? b = some o → h3.get? b = some o) →
      h3.IsKeyIter h2.objs.size d 0 kvs.length ep ∧ h3.DictAt knd d kvs ep ∧ HotX.HotAt A.in1 x1 h3 := fun k =>
    ⟨⟨_, k _ _ (Ne.symm (Nat.ne_of_lt lS)) (Heap.get?_push_size _ rfl), rfl, rfl⟩, hm2.at' fun o e => k _ o (Ne.symm n1) (Heap.get?_push_of_some _ e), hot_keep (A := A) hot2 fun o e => k _ o (Ne.symm n2) (Heap.get?_push_of_some _ e)⟩
  have key : ∀ (h3 : Heap) (c : Nat), (∀ b o, b ≠ S → (h2.push { cls := .type "dict_keyiterator", data := .fields #[.ref d, .int 0 0, .int kvs.length 0, .int ep 0] }).get? b = some o → h3.get? b = some o) →
      h3.get? S = some { cls := .type "list", data := .seq #[] c } → codeAny (model prog w) A (.builtin "list.extend.loop" ⟨[.ref S, .ref h2.objs.size, .none], []⟩) R { s with heap := h3 } := fun h3 c k hS3 => by
    refine codeAny_extend_loopS W.toS hn S hSf .none kvs.length 0 _ #[] c rfl (Nat.zero_le _) (st0 k) hS3 (ItemsOf.nil _) fun s' acc c' mv hS' ha => ?_
    rw [Moved.eq_with mv]
    refine hR s'.heap s'.toks acc c' (fun b o hb e => mv.heap b o (fun hmem => ?_) (k b o hb (Heap.get?_push_of_some _ (oth b o hb e)))) hS' ha
    rcases List.mem_cons.mp hmem with z | hmem
    · exact hb z
    · have lb := Heap.lt_size (oth b o hb e)
      rw [List.mem_singleton.mp hmem] at lb
      exact Nat.lt_irrefl _ lb
  have hS3 := Heap.get?_push_of_some { cls := .type "dict_keyiterator", data := .fields #[.ref d, .int 0 0, .int kvs.length 0, .int ep 0] } hS2
  refine wpAny_bind (wpAny_holding (PySem.W.kdl_hint_dict (show Shared.TypeIs _ (.ref d) "dict" from (hm2.at' fun o e => Heap.get?_push_of_some _ e).dictOf.typeIs) ?_))
  refine wpAny_ite_split (fun _ => ?_) (fun _ => wpAny_pure ⟨plainId_quiet PySem.F.plain_extend_loop _, key _ _ (fun _ _ _ e => e) hS3⟩)
  refine wpAny_bind (wpAny_rule (wpAny_bind ?_))
  show wpAny _ _ (updateSeq S (·.push .none) >>= fun _ => updateSeq S (·.pop)) _ _ _
  refine wpAny_bind (wpAny_updateSeq hS3 rfl ?_)
  have hS4 := Heap.get?_update_self (Obj.mapSeq (·.push Value.none)) hS3 rfl
  refine wpAny_updateSeq (hz := by seq_fits) hS4 rfl ?_
  have hS5 := Heap.get?_update_self (Obj.mapSeq (·.pop)) hS4 rfl
  exact wpAny_pure ⟨plainId_quiet PySem.F.plain_extend_loop _, key _ _ (fun b o hb e => (Heap.get?_update_other _ _ (Ne.symm hb)).trans ((Heap.get?_update_other _ _ (Ne.symm hb)).trans e)) hS5⟩
theorem list_hot {Q : Value → Shared → Prop} (lo : (d == sysModules) = false) (hot : HotX.HotAt A x1 s.heap) (hm : s.heap.DictAt knd d kvs ep) (hn : kvs.length ≤ sizeLine)
    (hQ : ∀ h' tk acc c, (∀ b o, s.heap.get? b = some o → h'.get? b = some o) → h'.get? s.heap.objs.size = some { cls := .type "list", dict := none, data := .seq acc c, slots := #[] } → ItemsOf (fun i v => ∃ k x, kvs[i]? = some (k, x) ∧ knd.is k v = true) acc kvs.length → Q (.ref s.heap.objs.size) { s with heap := h', toks := tk }) :
    wpAny (model prog w) A (call (.type "list") [.ref d]) Q E s := by
  refine callType_codes (Q₁ := fun obj s₁ => obj = .ref s.heap.objs.size ∧ s₁ = { s with heap := s.heap.push { cls := .type "list", data := .seq #[] } }) PySem.F.called_list (PySem.F.typeCall_list_1 _) PySem.F.entry_list_init (code_list_new _ ⟨rfl, rfl⟩) fun obj s₁ h₁ => ?_
  obtain ⟨rfl, rfl⟩ := h₁
  have hS : (s.heap.push { cls := .type "list", data := .seq #[] }).get? s.heap.objs.size = some { cls := .type "list", data := .seq #[] } := Heap.get?_push_size _ rfl
  have lx : x1 < s.heap.objs.size := by obtain ⟨_, o1, _, g, _⟩ := hot; exact Heap.lt_size g
  refine ⟨⟨_, hS, rfl⟩, PySem.F.args_list_init_2 _ _, init_hot (A := A.in1) lo (hot_keep (A := A) hot fun o e => Heap.get?_push_of_some _ e) (hm.at' fun o e => Heap.get?_push_of_some _ e) (Nat.ne_of_gt hm.lt_size) (Nat.ne_of_gt lx) hS hn fun h' tk acc c k hS' ha => ?_⟩
  exact ⟨rfl, hQ h' tk acc c (fun b o e => k b o (Nat.ne_of_lt (Heap.lt_size e)) (Heap.get?_push_of_some _ e)) hS' ha⟩
end
end
section
variable {X : Cx}
theorem call_list_dKH (hc : L2H.HotC X) : CallR X (.type "list") rListD := by
  intro pins s σ H xs us Q I r h
  obtain ⟨p, kvs, e, hk, q⟩ := h
  subst e
  obtain ⟨u, eu, rx⟩ := vals1 r
  subst eu
  obtain rfl : u = Value.ref p := rx
  obtain ⟨x1, hot⟩ := hc.at I
  obtain ⟨z, lo, vs, rk, hd⟩ := (show ObjOk X.prog X.w H s.heap p (.dK kvs) from I.hok p _ hk)
  obtain ⟨ep, hat⟩ := hd.dictAt
  have hl : kvs.length = vs.length := Paired.length rk
  refine list_hot (knd := mixKind X.prog X.w) lo hot hat (by rw [← hl]; exact z) fun h' tk acc c hkeep hS hacc => ?_
  have fresh := I.hok.fresh (Nat.le_refl _)
  have vv : Vals (kvs.map fun kv => kV kv.1) acc.toList := by
    have el : acc.toList.length = acc.size := by simp
    refine vals_of_at (by rw [List.length_map, el, hacc.1, hl]) fun j x w h1 h2 => ?_
    obtain ⟨k, y, hky, hi⟩ := hacc.2 j w (by rw [← Array.getElem?_toList]; exact h2)
    have e1 : (kvs.map (·.1))[j]? = some k := by rw [KV.keys rk, List.getElem?_map, hky] <;> rfl
    have e3 : (kvs.map fun kv => kV kv.1) = (kvs.map (·.1)).map kV := by rw [List.map_map] <;> rfl
    rw [e3, List.getElem?_map, e1] at h1
    cases h1
    exact keyIs_rel hi
  exact ⟨.ref s.heap.objs.size, upd H s.heap.objs.size (.lst (kvs.map fun kv => kV kv.1)), I.laid hkeep (Nat.le_refl _) (show ObjOk X.prog X.w _ _ _ (.lst (kvs.map fun kv => kV kv.1)) from ⟨by rw [List.length_map]; exact z, acc.toList, c, vv, by rw [Array.toArray_toList]; exact hS⟩), rfl, q _ fresh⟩
theorem cr_allH (hc : L2H.HotC X) : CallR X (.builtin "all") (rAll X.K) := by
  intro pins s σ H vs us Q I r h
  obtain ⟨a, bs, rfl, hs, q⟩ := h
  obtain ⟨its, rv, hl, _⟩ := I.list hs
  rw [Vals.ref1 r]
  have hb := rv.bls
  obtain ⟨x1, hot⟩ := hc.at I
  have lx : x1 < s.heap.objs.size := by obtain ⟨_, o1, _, g, _⟩ := hot; exact Heap.lt_size g
  refine call_all_walk (iter_any hl.isList fun s₂ e2 st hne => ?_)
  subst e2
  refine ⟨_, _, _, _, _, _, _, rfl, walk_listH (A := X.A.in1) x1 _ a (Nat.ne_of_lt lx) hne its.toArray, ⟨st.1, st.2, hot_keep (A := X.A) hot fun o e => Heap.get?_push_of_some _ e⟩, truth_bools hb, fun h' tk hk => ?_⟩
  refine ⟨.bl _, H, I.kept fun b o eo => hk b o (fun hm => ?_) (Heap.get?_push_of_some _ eo), ?_, q⟩
  · have lb := Heap.lt_size eo
    rw [List.mem_singleton.mp hm] at lb
    exact Nat.lt_irrefl _ lb
  · show Value.bool _ = Value.bool _
    rw [← L2.all_range, hb, List.size_toArray, List.length_map]
end
end EL
namespace EL
open PySem PySem.Spec PyProof.Rows L2 He TL
/-! ### for x in d, within a comprehension -/
section
variable {P : Program} {w : World} {K : PySem.W.Frag} {tg : Expr} {d : Addr} {o : Obj} {es : Array DictEntry} {ep : Nat}
theorem turn_keysH {kvs : List (Key × V)} (it : Addr) (hod : o.data = .dict es ep) : L2H.TurnH P w K tg (Itk d o kvs) [it] it (fun i h => h.IsKeyIter it d i kvs.length ep) where
  mem := by simp
  obj := fun i h st b hb => by
    cases List.mem_singleton.mp hb
    obtain ⟨oi, e, c, dd⟩ := st
    exact ⟨oi, e, fun v z => by rw [dd] at z; cases z⟩
  keep := fun i h h' st k => st.at fun oi e => k it (by simp) oi e
  item := by
    intro X hP hw hK hc i pins s σ H E I hf st hg
    subst hP hw hK
    obtain ⟨hd, hi⟩ := hg
    obtain ⟨f0, f1, f2, f3, f4, f5⟩ := hf it (by simp)
    obtain ⟨hs, hgd, hx, es', ep', vs, hdt, hsz, kv, hm⟩ := I.frzK hd
    obtain ⟨rfl, rfl⟩ := dict_ep hod hdt
    obtain ⟨⟨k, v⟩, hkv⟩ : ∃ p, kvs[i]? = some p := ⟨kvs[i], List.getElem?_eq_getElem hi⟩
    obtain ⟨u, hu, ru⟩ := kv_get kv hkv
    have hl : kvs.length = vs.length := Paired.length kv
    rw [hl] at st
    refine wpAny_pyNext_dict_item st hm hu fun key h' hkey st' sb => ?_
    obtain ⟨oi, e, c, dd⟩ := id st'
    exact ⟨key, rfl, go_of (s := { s with heap := h' }) e c dd (by decide) ⟨kV k, H, I.turned (t' := s.toks) (fun b ob hb e => (sb.2 b hb).trans e) f0 f1 f3 f4 f5, relV_key (show keyIs k key = true from hkey), ⟨rfl, k, v, hkv, rfl⟩, (by show h'.IsKeyIter it d (i + 1) kvs.length _; rw [hl]; exact st'), fun b hb => (hf b hb).1⟩⟩
  done := by
    intro X hP hw hK hc i pins s σ H E I hf st hg
    subst hP hw hK
    obtain ⟨hd, hi⟩ := hg
    obtain ⟨f0, f1, f2, f3, f4, f5⟩ := hf it (by simp)
    obtain ⟨hs, hgd, hx, es', ep', vs, hdt, hsz, kv, hm⟩ := I.frzK hd
    obtain ⟨rfl, rfl⟩ := dict_ep hod hdt
    obtain ⟨x1, hot⟩ := hc.at I
    have n1 : x1 ≠ it := fun z => by
      obtain ⟨_, o1, vs1, g1, d1, c1⟩ := hot
      obtain ⟨oi, e, _, dd⟩ := st
      rw [z, e] at g1
      cases g1
      rw [dd] at d1
      cases d1
      cases c1
    exact keys_end_hot hot n1 st hgd hdt hsz hi fun h' eb => ⟨rfl, I.turned (t' := s.toks) (fun b ob hb e => eb b ob hb e) f0 f1 f3 f4 f5⟩
  self := fun A i s Q E st h => wpAny_pyIter_keyiter st h
end
section
variable {X : Cx}
def iKeysH (td : TE) : TI := fun σ H R => td σ H fun x H1 => ∃ d o, x = .ref d ∧ ((∃ kvs, H1 d = some (.frz o (.dK kvs)) ∧ R (Itk d o kvs) H1) ∨ False)
theorem pi_keysH {tg e : Expr} {td : TE} (he : PE X e td) : L2H.PIH X tg e (iKeysH td) := by
  refine ⟨fun pins s σ H R I h => ?_⟩
  refine thn (he.run pins s σ H _ I h) fun u s1 ⟨x, H1, I1, rx, d, o, ex, hd⟩ => ?_
  subst ex
  obtain ⟨kvs, hd, q⟩ : ∃ kvs, H1 d = some (.frz o (.dK kvs)) ∧ R (Itk d o kvs) H1 := hd.elim id False.elim
  obtain rfl : u = Value.ref d := rx
  obtain ⟨hs, hgd, hx, es, ep, vs, hdt, hsz, kv, hm⟩ := I1.frzK hd
  refine iter_keys hs hgd hx hdt ?_
  refine ⟨s1.heap.objs.size, [s1.heap.objs.size], _, _, H1, rfl, I1.kept (t' := s1.toks) fun b ob e => Heap.get?_push_of_some _ e, turn_keysH _ hdt, ⟨_, Heap.get?_push_size _ rfl, rfl, by rw [hsz]; rfl⟩, fun b hb => ?_, q⟩
  cases List.mem_singleton.mp hb
  exact I1.fpOk (Nat.le_refl _) (I1.hok.fresh (Nat.le_refl _))
/-- a comprehension's block where an exception is being handled -/
abbrev blkH (X : Cx) (s : Shared) (H : Hp) (scope : Scope) (cenv : Env) (fp : List Addr) (p : Addr × Obj) : Cx := { X.blk s H scope cenv fp with pn := [p] }
theorem _root_.L2.Inv.toBlkH {s0 : Shared} {H0 : Hp} {scope : Scope} {ce : Env} {fp : List Addr} {p : Addr × Obj} {σ : L2.St} {H : Hp} {s : Shared} (I : Inv (X.blk s0 H0 scope ce fp) [] σ H s) (hp : s.heap.get? p.1 = some p.2 ∧ H p.1 = none ∧ p.1 ≠ ce.locals ∧ p.1 ∉ frs X.stack ∧ ∀ v, p.2.data ≠ .cell v) : Inv (EL.blkH X s0 H0 scope ce fp p) [] σ H s :=
  ⟨⟨I.ok.mod, I.ok.kind, I.ok.glob, I.ok.blt, I.ok.above, I.ok.inj, I.ok.has, I.ok.cab, I.ok.hd, I.ok.frames, I.ok.stk, I.ok.exf, I.ok.bs, I.ok.bsz, I.ok.noex, I.ok.exfs, I.ok.funs, I.ok.frf⟩, I.os, I.bare, I.base, I.loc, I.cell, I.free, I.freeC, fun q hq => by
    cases List.mem_singleton.mp (show q ∈ [p] from by simpa using hq)
    exact hp, I.hok, I.len⟩
theorem lcH_core {pins : List (Addr × Obj)} {s : Shared} {σ : L2.St} {H : Hp} {Q : VK} {elt tg iter : Expr} {ifs : List Expr} {scope : Scope} {own : List (Str × Nat)} {pos pos' : Pos} {wi : TI} {g : TG} {tt : TT} {te : TE} {use : Option (Value → Sem Unit)} {Qf : Value → Shared → Prop}
    (hc : L2H.HotC X) (hN : X.N.Nodup) (I : Inv X pins σ H s) (hi : L2H.PIH X tg iter wi) (ok : BlkOk X.N X.env.scope scope own)
    (hg : ∀ (s : Shared) (H : Hp) (C : Addr) (cl : List (Str × Addr)) (fp : List Addr) (p : Addr × Obj), L2H.Hot1 X.A p → PG (EL.blkH X s H scope (compEnvC scope cl C X.env) fp p) tg g) (ht : ∀ (s : Shared) (H : Hp) (C : Addr) (cl : List (Str × Addr)) (fp : List Addr) (p : Addr × Obj), L2H.Hot1 X.A p → PTs (EL.blkH X s H scope (compEnvC scope cl C X.env) fp p) ifs tt)
    (he : ∀ (s : Shared) (H : Hp) (C : Addr) (cl : List (Str × Addr)) (fp : List Addr) (p : Addr × Obj), L2H.Hot1 X.A p → PE (EL.blkH X s H scope (compEnvC scope cl C X.env) fp p) elt te) (hs : ∀ x, foldedSetIterable iter X.env x = pure x)
    (h : tLc wi g tt te (own.map (·.2)) σ H Q)
    (hRR : ∀ D C s' m H', Inv X pins σ H' s' → Q (.ref D) H' → s'.heap.Ns C m → FpOk X pins H' C → compPost (model X.prog X.w) X.A X.xe use Qf (.ref D) C (.ok .next) s') :
    wpAny (model X.prog X.w) X.A (comprehension (.ListComp elt [⟨tg, iter, ifs, 0⟩] scope pos) scope X.env pos' (newList []) false (eval iter X.env) use) Qf X.xe s := by
  obtain ⟨p, hot, hpn⟩ := hc
  have cl : ∀ y ∈ scope.names, y.2 = .free → ∃ c, X.env.cells.lookup y.1 = some c := fun y hy e => (ok.free y hy e).elim (fun k => I.ok.has _ (.inl k)) (fun k => I.ok.has _ (.inr k))
  refine wpAny_comprehension_free (use := use) rfl hs (closure_ok cl) ok.kind (fun y hy e => by rw [ok.uniq y hy, e]) (thn (hi.run pins s σ H _ I h) fun xv s1 hx => thn hx fun itv s2 h2 => ?_)
  obtain ⟨it, fp, tn, J, H2, e, I2, T, st2, f2, q⟩ := h2
  subst e
  refine wpAny_newObj_type (newEnv_comp ?_)
  generalize hD : s2.heap.objs.size = D
  obtain ⟨V, ⟨m0, w0⟩, turn⟩ := q D (I2.hok.fresh (Nat.le_of_eq hD))
  obtain ⟨s3, hs3⟩ : ∃ s3 : Shared, ({ s2 with heap := s2.heap.push { cls := .type "list", data := .seq ([] : List Value).toArray } } : Shared) = s3 := ⟨_, rfl⟩
  have hh3 : s3.heap = s2.heap.push { cls := .type "list", data := .seq ([] : List Value).toArray } := by rw [← hs3]
  obtain ⟨H3, hH3⟩ : ∃ H3, upd H2 D (.lst []) = H3 := ⟨_, rfl⟩
  have I3 : Inv X pins σ H3 s3 := by
    rw [← hs3, ← hH3]
    refine I2.laid (t' := s2.toks) (fun b o e => Heap.get?_push_of_some _ e) (Nat.le_of_eq hD) ?_
    rw [← hD]
    exact ⟨Nat.zero_le _, [], 0, .nil, Heap.get?_push_size _ rfl⟩
  rw [hH3] at w0
  have lt2 : ∀ b ∈ fp, b < s2.heap.objs.size := fun b hb => let ⟨o, e, _⟩ := T.obj _ _ st2 b hb; Heap.lt_size e
  have f3 : ∀ b ∈ fp, FpOk X pins H3 b ∧ b < s3.heap.objs.size := fun b hb => by
    refine ⟨⟨?_, (f2 b hb).2⟩, by rw [hh3, Heap.size_push]; exact Nat.lt_succ_of_lt (lt2 b hb)⟩
    rw [← hH3, upd_ne (by rw [← hD]; exact Nat.ne_of_lt (lt2 b hb))]
    exact (f2 b hb).1
  have I4' := block_start I3 ok hN f3
  have P3 := I3.pin p (List.mem_append_left _ hpn)
  rw [hs3]
  show codeAny _ _ (.compStart (.ListComp elt [⟨tg, iter, ifs, 0⟩] scope pos) 0 (.ref it) (.ref D) (compEnvC scope (cellsFrom (s3.heap.objs.size + 1) scope.names (cloFrom X.env.cells scope.names [])) s3.heap.objs.size X.env)) (compPost (model X.prog X.w) X.A X.xe use Qf (.ref D) s3.heap.objs.size) { s3 with heap := pushCells (s3.heap.push { cls := .type "dict", data := .dict #[] }) scope.names }
  have pg := hg s3 H3 s3.heap.objs.size (cellsFrom (s3.heap.objs.size + 1) scope.names (cloFrom X.env.cells scope.names [])) fp p hot
  have pt := ht s3 H3 s3.heap.objs.size (cellsFrom (s3.heap.objs.size + 1) scope.names (cloFrom X.env.cells scope.names [])) fp p hot
  have pe := he s3 H3 s3.heap.objs.size (cellsFrom (s3.heap.objs.size + 1) scope.names (cloFrom X.env.cells scope.names [])) fp p hot
  generalize hce : compEnvC scope (cellsFrom (s3.heap.objs.size + 1) scope.names (cloFrom X.env.cells scope.names [])) s3.heap.objs.size X.env = ce at I4' pg pt pe ⊢
  have cL : ce.locals = s3.heap.objs.size := by rw [← hce]; rfl
  have keep4 : ∀ b o, s3.heap.get? b = some o → (pushCells (s3.heap.push { cls := .type "dict", data := .dict #[] }) scope.names).get? b = some o := fun b o e => pushCells_keeps _ _ _ _ (Heap.get?_push_of_some _ e)
  have st4 : tn 0 (pushCells (s3.heap.push { cls := .type "dict", data := .dict #[] }) scope.names) := T.keep _ _ _ st2 fun b _ o e => keep4 _ _ (by rw [hh3]; exact Heap.get?_push_of_some _ e)
  have I4 : Inv (EL.blkH X s3 H3 scope ce fp p) [] (wipe σ (own.map (·.2))) H3 { s3 with heap := pushCells (s3.heap.push { cls := .type "dict", data := .dict #[] }) scope.names } := by
    refine I4'.toBlkH ⟨keep4 _ _ P3.1, P3.2.1, by rw [cL]; exact Nat.ne_of_lt (Heap.lt_size P3.1), fun hm => (List.mem_cons.mp (I3.stkSub p.1 hm)).elim P3.2.2.1 P3.2.2.2.1, P3.2.2.2.2⟩
  generalize hs4 : ({ s3 with heap := pushCells (s3.heap.push { cls := .type "dict", data := .dict #[] }) scope.names } : Shared) = s4 at I4 ⊢
  have st4' : tn 0 s4.heap := by rw [← hs4]; exact st4
  have hcB : L2H.HotC (EL.blkH X s3 H3 scope ce fp p) := ⟨p, hot, by simp⟩
  have stat : ∀ {σ' : L2.St} {H' : Hp} {s' : Shared}, Inv (EL.blkH X s3 H3 scope ce fp p) [] σ' H' s' → (∀ b ∈ fp, H' b = none) → ∀ b ∈ fp, FpOk (EL.blkH X s3 H3 scope ce fp p) [] H' b := fun I' hn b hb =>
    ⟨hn b hb, (I'.ok.exf b hb).1, I'.ok.exfs b hb, .inl hb, fun x c e => (I'.ok.exf b hb).2 x c e, fun q hq => by
      cases List.mem_singleton.mp (show q ∈ [p] from by simpa using hq)
      exact (f3 b hb).1.2.2.2.2.2 p (List.mem_append_left _ hpn)⟩
  have loop : codeAny (model X.prog X.w) X.A (.compLoop (.ListComp elt [⟨tg, iter, ifs, 0⟩] scope pos) 0 (.ref it) (.ref D) ce) (compPost (model X.prog X.w) X.A X.xe use Qf (.ref D) s3.heap.objs.size) s4 := by
    refine compLoop_any (fun n s' => ∃ i H', Inv (EL.blkH X s3 H3 scope ce fp p) [] (wipe σ (own.map (·.2))) H' s' ∧ tn i s'.heap ∧ (∀ b ∈ fp, H' b = none) ∧ V i n H') ?_ m0 ⟨0, H3, I4, st4', fun b hb => (f3 b hb).1.1, w0⟩
    rintro n s5 ⟨i, H5, I5, st5, n5, w5⟩
    rcases turn i n H5 w5 with ⟨stop, qq⟩ | ⟨go, Nx, hNx, step⟩
    · refine thnF (T.done (EL.blkH X s3 H3 scope ce fp p) rfl rfl rfl hcB i [] s5 _ H5 (fun _ _ => False) I5 (stat I5 n5) st5 stop) fun r s6 ⟨hr, I6⟩ => ?_
      subst hr
      have I7 : Inv X pins σ H5 s6 := I3.call' (ch := fp) I6.os I6.base I6.hok I6.bare fun b hb => ⟨(f3 b hb).1.2.2.2.1, (f3 b hb).1.2.1, (f3 b hb).1.2.2.2.2.1, (f3 b hb).1.2.2.2.2.2⟩
      have nC : H5 s3.heap.objs.size = none := by rw [← cL]; exact I6.free
      obtain ⟨m, hn, _⟩ := I6.loc
      have hn : s6.heap.Ns ce.locals m := hn
      rw [cL] at hn
      exact hRR D s3.heap.objs.size s6 m H5 I7 qq hn (I3.fpOk (Nat.le_refl _) nC)
    · refine thnF (T.item (EL.blkH X s3 H3 scope ce fp p) rfl rfl rfl hcB i [] s5 _ H5 (fun _ _ => False) I5 (stat I5 n5) st5 go) fun r s6 ⟨u, hr, h6⟩ => ?_
      subst hr
      refine thnF h6 fun _ s7 ⟨x, H7, I7, r7, y7, st7, n7⟩ => ?_
      refine thnF (pg.run _ s7 _ H7 x u _ (I7.pinned (stat I7 n7) (T.obj _ _ st7)) r7 (step x H7 y7)) fun _ s8 ⟨σ8, H8, I8, hw8, q8⟩ => ?_
      refine thnF (pt.run _ s8 σ8 H8 _ I8 q8) fun b s9 ⟨H9, I9, q9⟩ => ?_
      have fin : ∀ {s' : Shared} {H' : Hp}, Inv (EL.blkH X s3 H3 scope ce fp p) ([] ++ pinsAt fp s7.heap) σ8 H' s' → Nx H' → ∃ m, m < n ∧ ∃ i H', Inv (EL.blkH X s3 H3 scope ce fp p) [] (wipe σ (own.map (·.2))) H' s' ∧ tn i s'.heap ∧ (∀ b ∈ fp, H' b = none) ∧ V i m H' := fun {s' H'} I' nx => by
        obtain ⟨m', hm, w'⟩ := hNx H' nx
        have pin' : ∀ b ∈ fp, ∀ o, s7.heap.get? b = some o → s'.heap.get? b = some o ∧ H' b = none := fun b hb o e =>
          let z := I'.pin (b, o) (List.mem_append_right _ (List.mem_append_right _ (mem_pinsAt hb e)))
          ⟨z.1, z.2.1⟩
        refine ⟨m', hm, i + 1, H', (I'.unpinned (pins := [])).weak (by rw [← hw8, wipe_length]) (fun j v e => (wipe_some (by rw [hw8]; exact e)).1), T.keep _ _ _ st7 fun b hb o e => (pin' b hb o e).1, fun b hb => ?_, w'⟩
        obtain ⟨o, e, _⟩ := T.obj _ _ st7 b hb
        exact (pin' b hb o e).2
      cases b with
      | false => exact fin I9 q9
      | true =>
        refine thnF (pe.run _ s9 σ8 H9 _ I9 q9) fun z s10 ⟨yv, H10, I10, r10, acc, hD10, hz10, nx⟩ => ?_
        exact app_ok (X := EL.blkH X s3 H3 scope ce fp p) I10 hD10 hz10 r10 fun s11 I11 => fin I11 nx
  exact codeAny_compStart_list loop (T.self X.A 0 _ _ _ st4' loop)
theorem pe_lcH {elt tg iter : Expr} {ifs : List Expr} {scope : Scope} {own : List (Str × Nat)} {pos : Pos} {wi : TI} {g : TG} {tt : TT} {te : TE} (hc : L2H.HotC X) (hN : X.N.Nodup) (hi : L2H.PIH X tg iter wi) (ok : BlkOk X.N X.env.scope scope own)
    (hg : ∀ (s : Shared) (H : Hp) (C : Addr) (cl : List (Str × Addr)) (fp : List Addr) (p : Addr × Obj), L2H.Hot1 X.A p → PG (EL.blkH X s H scope (compEnvC scope cl C X.env) fp p) tg g) (ht : ∀ (s : Shared) (H : Hp) (C : Addr) (cl : List (Str × Addr)) (fp : List Addr) (p : Addr × Obj), L2H.Hot1 X.A p → PTs (EL.blkH X s H scope (compEnvC scope cl C X.env) fp p) ifs tt)
    (he : ∀ (s : Shared) (H : Hp) (C : Addr) (cl : List (Str × Addr)) (fp : List Addr) (p : Addr × Obj), L2H.Hot1 X.A p → PE (EL.blkH X s H scope (compEnvC scope cl C X.env) fp p) elt te) (hs : ∀ x, foldedSetIterable iter X.env x = pure x := by intro _; rfl) :
    PE X (.ListComp elt [⟨tg, iter, ifs, 0⟩] scope pos) (tLc wi g tt te (own.map (·.2))) := by
  refine ⟨fun pins s σ H Q I h => ?_⟩
  rw [arm_eval_ListComp]
  refine lcH_core hc hN I hi ok hg ht he hs h fun D C s' m H' I' q hn f => ⟨m, hn, fun h2 sb => ?_⟩
  obtain ⟨f0, f1, f2, f3, f4, f5⟩ := f
  exact ⟨.ref D, H', I'.turned (t' := s'.toks) (fun b o hb e => (sb.2 b hb).trans e) f0 f1 f3 f4 f5, rfl, q⟩
end
end EL
namespace EL
open PySem PySem.Spec PyProof.Rows L2 He TL
/-! ### defs where an exception is being handled -/
def FnHx (P : Program) (w : World) (K : PySem.W.Frag) (mg : Str → Option Value) (base : Heap) (CX : CXT) (k : Nat) (f : Addr) (sp : Sp) : Prop := ∃ fd ps, L2H.FnH P w K mg base CX k f fd ps sp ∧ Binds K fd ps []
section
variable {P : Program} {w : World} {K : PySem.W.Frag} {mg : Str → Option Value} {base : Heap} {CX : CXT} {k : Nat} {x qual : Str} {sp : Sp} {params : Arguments} {body : List Stmt} {scope : Scope} {f : Addr} {fd : FuncData} {ps N : List Str}
theorem fnHx (F : FunD K x qual params body scope [] [] f fd)
    (hb : ∀ (kV doc pm : Value) (an : Option Addr) (cdv ct : Value) (us : List Value), us.length = ps.length → bindArgs (PySem.W.fnOf x qual params body scope .none kV doc pm an cdv ct) ⟨us, []⟩ = pure (ps.zip us))
    (S : FnScope N ps scope) (len : ∀ vs H Q E, sp vs H Q E → vs.length = ps.length)
    (hbody : ∀ (cdv : Value) (A : Around) (outer : List Env) (s : Shared) (H : Hp) (vs : List V) (Q : VK) (E : XK) (p : Addr × Obj), L2H.Hot1 A p → L2H.RoomH k (A.deeper (envOfC qual scope s.heap.objs.size f cdv)) → sp vs H Q E →
      ∃ t, PSs (L2H.cxH CX P w K mg base N qual scope f cdv A outer s H E p) body t ∧ t { nx := fun _ H' => Q .non H', rt := Q } (start N vs) H) : FnHx P w K mg base CX (k + 1) f sp := by
  have b := F.bindsN hb
  obtain ⟨oc, od, dV, kV, doc, pm, an, cdv, ct, osl, rfl, lk, hcd, hD, hK⟩ := F.ex
  exact ⟨_, ps, L2H.fn_ofH lk hcd S len fun A outer s H vs Q E p hot hr h => hbody cdv A outer s H vs Q E p hot hr h, b⟩
theorem FnHx.mono {j : Nat} (F : FnHx P w K mg base CX j f sp) (h : j ≤ k) : FnHx P w K mg base CX k f sp := by
  obtain ⟨fd, ps, F, b⟩ := F
  exact ⟨fd, ps, ⟨F.len, fun A outer s H args us vs Q E p hr => F.run A outer s H args us vs Q E p (hr.mono h)⟩, b⟩
end
section
variable {X : Cx} {CX : CXT} {k : Nat} {C g : Addr} {sp : Sp}
theorem uH64 {A : Around} (r : L2H.RoomH k A) : A.units + 64 < cLine := by have := r.un; omega
theorem uH65 {A : Around} (r : L2H.RoomH k A) : A.units + 65 < cLine := by have := r.un; omega
theorem uH0 {A : Around} (r : L2H.RoomH k A) : A.units < cLine := by have := r.un; omega
theorem uH1 {A : Around} (r : L2H.RoomH k A) : A.units + 1 < cLine := by have := r.un; omega
theorem uH {A : Around} (r : L2H.RoomH k A) : A.units + 66 < cLine := by have := r.un; omega
theorem runH_at {A : Around} {E : XK} {pins : List (Addr × Obj)} {σ : L2.St} {H : Hp} {s : Shared} {Q : VK} {us : List Value} {vs : List V} (F : FnHx X.prog X.w X.K X.mg X.base CX k g sp) (hr : L2H.RoomH k A) (hA : A.handled = X.A.handled) (e0 : Env0 X.prog X.w X.K X.mg X.base A X.stack s H) (hc : L2H.HotC X) (hx : PassesAt CX X σ E)
    (I : Inv X pins σ H s) (r : Vals vs us) (h : sp vs H Q E) : codeAny (model X.prog X.w) A (.call (.ref g) ⟨us, []⟩) (fun r s' => match r with | .ok (.ret v) => EP X pins σ Q v s' | .ok _ => False | .error e => X.xe e s') s := by
  obtain ⟨fd, ps, F, hb⟩ := F
  obtain ⟨p, ⟨h1, h2⟩, hp⟩ := hc
  have b := hb s us I.kIn (by rw [List.append_nil, ← r.length]; exact F.len _ _ _ _ h)
  rw [List.append_nil] at b
  have P1 := I.pin p (List.mem_append_left _ hp)
  have hpin : L2H.PinOk X.stack H s p := ⟨P1.1, P1.2.1, fun hm => (List.mem_cons.mp (I.stkSub p.1 hm)).elim P1.2.2.1 P1.2.2.2.1, P1.2.2.2.2⟩
  refine codeAny_mono (F.run A X.stack s H ⟨us, []⟩ us vs Q E p hr ⟨hA.trans h1, h2⟩ hpin e0 b r h) fun r s' hq => ?_
  cases r with
  | error e => exact hx pins H s e s' I hq
  | ok fl =>
    cases fl with
    | ret u => exact I.after hq
    | next => exact False.elim hq
    | brk => exact False.elim hq
    | cont => exact False.elim hq
theorem px0H {σ : L2.St} : PassesAt CX0 X σ E0 := fun _ _ _ _ _ _ h => h.elim
theorem op_cmpOH {op : CmpOp} (hop : ∀ a b, compareOp op a b = richCompare op a b) (hs : PySem.W.findIn X.K (.ref C) (cmpInfo op).2.1 = some (some (.ref g))) (hf : PySem.W.isFn X.K (.ref g) = true) (F : FnHx X.prog X.w X.K X.mg X.base CX0 k g sp)
    (hr : L2H.RoomH k X.A) (hc : L2H.HotC X) : OpR X (compareOp op) (rCmpO X.K C sp E0) := by
  intro pins s σ H x y v u Q I rx ry h
  obtain ⟨a, dx, fs, t, rfl, ha, ty, hn, q⟩ := h
  cases (show v = Value.ref a from rx)
  obtain ⟨ox, od, J, _⟩ := ins_at I ha
  obtain ⟨P, Z, p, _⟩ := kit_of I ry ty
  obtain ⟨m, hF⟩ := I.fr
  rw [hop]
  refine PySem.W.cmp_K (op := op) (tb := t) (by have := uH hr; omega) hF I.ok.mod.kin J (Z.ty _ _ I.kIn p) hn hs hf ?_
  refine wpAny_mono (wpAny_call (runH_at (us := [.ref a, u]) (vs := [.ref a, y]) F hr rfl I.env0 hc px0H I (.cons rfl (.cons ry .nil)) q)) (fun w s' z => ?_) fun _ _ x => x
  obtain ⟨z', H', I', rz, qz⟩ := z
  exact SlX.cmpback rz ⟨z', H', I', rz, qz⟩
end
end EL
namespace EL
open PySem PySem.Spec PyProof.Rows L2 He TL
section
variable {X : Cx} {CX : CXT} {k : Nat} {C g : Addr} {sp : Sp}
theorem roomH_mark {A : Around} {hd : Option Value} (r : Room k A) : L2H.RoomH k (A.mark hd) := ⟨r.dp, r.un⟩
theorem RoomH_in1 {A : Around} (r : L2H.RoomH (k + 1) A) : L2H.RoomH k A.in1 := ⟨by have := r.dp; show A.depth + 3 * k + 5 < _; omega, by have := r.un; show A.units + 1 + 16 * k + 200 < _; omega⟩
theorem op_neOH (c : OC X.K C) (hn : PySem.W.findIn X.K (.ref C) "__ne__" = some (some (.builtin "object.__ne__"))) (hs : PySem.W.findIn X.K (.ref C) "__eq__" = some (some (.ref g))) (hf : PySem.W.isFn X.K (.ref g) = true) (F : FnHx X.prog X.w X.K X.mg X.base CX0 k g sp)
    (hr : L2H.RoomH (k + 1) X.A) (hc : L2H.HotC X) : OpR X (compareOp .NotEq) (rNeO X.K C sp E0) := by
  intro pins s σ H x y v u Q I rx ry h
  obtain ⟨a, dx, fs, t, rfl, ha, ty, hnf, q⟩ := h
  cases (show v = Value.ref a from rx)
  obtain ⟨ox, od, J, _⟩ := ins_at I ha
  obtain ⟨P, Z, p, _⟩ := kit_of I ry ty
  show wpAny _ X.A (richCompare .NotEq (.ref a) u) _ _ s
  refine ne_own (tb := t) (by have := uH hr; omega) I.kIn J (Z.ty _ _ I.kIn p) hnf hn c.ob hs hf ?_
  refine wpAny_mono (wpAny_call (runH_at (A := X.A.in1) (us := [.ref a, u]) (vs := [.ref a, y]) F (RoomH_in1 hr) rfl I.env0.in1 hc px0H I (.cons rfl (.cons ry .nil)) q)) (fun w s' z => ?_) fun _ _ x => x
  obtain ⟨z', H', I', rz, b, eb, qz⟩ := z
  subst eb
  cases (show w = Value.bool b from rz)
  exact ⟨b, rfl, .bl (!b), H', I', rfl, qz⟩
/-- raise C('..') where an exception is being handled -/
theorem rsH {W : WX} {c m : Str} {j : Nat} {p p2 pos pos2 : Pos} (hc : L2H.HotC X) (tk : Takes X W) (x : XC X.K X.mg c) (hg : Gl X c) (hdb : (c == ("__debug__" : Str)) = false := by decide) :
    PS X (.Raise (some (.Call (.Name c p) [.Constant (.str m) j p2] [] pos)) none pos2) (fun _ σ H => W (.ref (ga X.K c)) none σ H) :=
  L2H.ps_raiseH hc tk (L2N.pmk_own PySem.F.excBase_ValueError x.q x.g x.k (raises_own x.b x.t) hg hdb)
/-- the same in a def whose exceptions bear no context -/
theorem rsN {W : WX} {c m : Str} {j : Nat} {p p2 pos pos2 : Pos} (hc : X.calm = true) (tk : L2N.Takes X W) (x : XC X.K X.mg c) (hg : Gl X c) (hdb : (c == ("__debug__" : Str)) = false := by decide) :
    PS X (.Raise (some (.Call (.Name c p) [.Constant (.str m) j p2] [] pos)) none pos2) (fun _ σ H => W (.ref (ga X.K c)) none σ H) :=
  L2N.ps_raise hc tk (L2N.pmk_own PySem.F.excBase_ValueError x.q x.g x.k (raises_own x.b x.t) hg hdb)
theorem pxN {W : WX} (tk : L2N.Takes X W) : ∀ σ, PassesAt (L2N.CX X.prog X.w) X σ (WE W σ) := fun σ => L2N.passAt tk σ
theorem ps_augOH {E : L2.St → XK} {op : Operator} {i : Nat} {x : Str} {e : Expr} {te : TE} {pos pos' : Pos} (hN : X.N.Nodup) (hi : X.N[i]? = some x) (hx : Loc X.env.scope x) (hc : PySem.W.selfFirst X.K C = true) (hs : PySem.W.findIn X.K (.ref C) (PySem.dunderI op.info.2) = some (some (.ref g))) (hf : PySem.W.isFn X.K (.ref g) = true)
    (F : FnHx X.prog X.w X.K X.mg X.base CX k g sp) (hr : L2H.RoomH k X.A) (hot : L2H.HotC X) (hp : ∀ σ, PassesAt CX X σ (E σ)) (he : PE X e te) (hl' : X.fn x = true ∨ X.env.scope.names.lookup x = some .local := by first | exact .inl rfl | exact .inr rfl | assumption) :
    PS X (.AugAssign (.Name x pos') op e pos) (tAugX i C sp E te) := by
  refine ⟨fun pins s σ H D I h => ?_⟩
  obtain ⟨v, e1, h⟩ := h
  obtain ⟨m0, hn, hl⟩ := I.loc
  have vis : Vis X.env.scope x := hx.elim .inl fun k => .inr (.inl k)
  obtain ⟨u, r, l⟩ := hl i x v hi e1 vis
  refine wpAny_AugAssign_Name ?_
  have go : wpAny (model X.prog X.w) X.A (eval e X.env) (fun w s₂ => wpAny (model X.prog X.w) X.A (inplaceOp op u w) (fun r s₃ => wpAny (model X.prog X.w) X.A (storeName X.env x r) (fun _ => SP X pins D .next) X.xe s₃) X.xe s₂) X.xe s := by
    refine thn (he.run pins s σ H _ I h) fun w s1 ⟨y, H1, I1, r1, q1⟩ => ?_
    have step : wpAny (model X.prog X.w) X.A (inplaceOp op u w) (EP X pins σ fun z H2 => D.nx (σ.set i (some z)) H2) X.xe s1 := by
      obtain ⟨a, dx, fs, rfl, ha, q⟩ := q1
      cases (show u = Value.ref a from r)
      obtain ⟨ox, od, J, _⟩ := ins_at I1 ha
      obtain ⟨m, hF⟩ := I1.fr
      refine PySem.W.ksp_inplace hF I1.ok.mod.kin J hc hs hf ?_
      refine wpAny_mono (wpAny_call (runH_at (us := [.ref a, w]) (vs := [.ref a, y]) F hr rfl I1.env0 hot (hp σ) I1 (.cons rfl (.cons r1 .nil)) q)) (fun w s' z => ?_) fun _ _ x => x
      obtain ⟨z', H', I', rz, qz⟩ := z
      exact SlX.cmpback rz ⟨z', H', I', rz, qz⟩
    exact thn step fun z s2 ⟨zv, H2, I2, r2, q2⟩ => store_ok I2 hN hi hx r2 (fun s3 I3 => ⟨_, H2, I3, q2⟩) hl'
  rcases l with ⟨hk, hm⟩ | ⟨hk, c, hc, hcell⟩
  · exact wpAny_loadName_local I.ok.kind hk hn hm go
  · refine hk.elim (fun hk => wpAny_loadName_cell I.ok.kind hk hc hcell go) fun hk => ?_
    have z : X.env.scope.names.lookup x = some .free := hk
    rcases hx with k | k <;> (rw [k] at z; cases z)
end
end EL
/-! EV: list(zip(a, b)) of two lists; xs[a:b] = ys -/
namespace EL
open PySem PySem.Spec PyProof.Rows PyProof.V PySem.Calls PySem.W L2 He TL
namespace ZL
theorem no_len : typeLookup (.type "zip") "__len__" = pure none := by rw [typeLookup_type, builtinLookup_eq_fast]; kernel_rfl
theorem no_hint : typeLookup (.type "zip") "__length_hint__" = pure none := by rw [typeLookup_type, builtinLookup_eq_fast]; kernel_rfl
section
variable {prog : Program} {w : World} {A : Around} {E : Value → Shared → Prop} {s : Shared} {z TI TO i1 i2 l1 l2 : Addr} {xs ys : Array Value}
/-- a zip at its turn i, its last tuple perhaps held by another -/
structure St (h : Heap) (S z TI TO i1 i2 l1 l2 : Addr) (xs ys : Array Value) (i : Nat) : Prop where
  ti : IsPair h TI (.ref i1) (.ref i2)
  h1 : h.IsListIter i1 l1 i
  h2 : h.IsListIter i2 l2 i
  e1 : h.IsList l1 xs
  e2 : h.IsList l2 ys
  z : (IsZip h z TI TO .none ∧ ∃ a b, IsPair h TO a b) ∨ ∃ T f oT, IsZipHeld h z TI TO T f ∧ h.get? T = some oT ∧ T ≠ z ∧ T ≠ i1 ∧ T ≠ i2 ∧ T ≠ S
/-- what the walk may change -/
abbrev Out (z TO i1 i2 c : Addr) : Prop := c ≠ z ∧ c ≠ TO ∧ c ≠ i1 ∧ c ≠ i2
theorem St.keep {h h' : Heap} {S : Addr} {i : Nat} (st : St h S z TI TO i1 i2 l1 l2 xs ys i) (k : ∀ c o, c ≠ S → h.get? c = some o → h'.get? c = some o) (s1 : TI ≠ S) (s2 : i1 ≠ S) (s3 : i2 ≠ S) (s4 : l1 ≠ S) (s5 : l2 ≠ S) (s6 : z ≠ S) (s7 : TO ≠ S) : St h' S z TI TO i1 i2 l1 l2 xs ys i := by
  obtain ⟨a, b, c, d, e, f⟩ := st
  refine ⟨k _ _ s1 a, b.at fun o q => k _ o s2 q, c.at fun o q => k _ o s3 q, d.at fun o q => k _ o s4 q, e.at fun o q => k _ o s5 q, ?_⟩
  rcases f with ⟨f1, x, y, f2⟩ | ⟨T, f, oT, f1, f2, f3, f4, f5, f6⟩
  · exact .inl ⟨k _ _ s6 f1, x, y, k _ _ s7 f2⟩
  · exact .inr ⟨T, f, oT, k _ _ s6 f1, k _ _ f6 f2, f3, f4, f5, f6⟩
theorem item {S : Addr} {i : Nat} {x y : Value} {Q : Option Value → Shared → Prop} (D : ZipApart z TI TO i1 i2 l1 l2) (st : St s.heap S z TI TO i1 i2 l1 l2 xs ys i) (hS : S < s.heap.objs.size) (hx : xs[i]? = some x) (hy : ys[i]? = some y)
    (hQ : ∀ h', St h' S z TI TO i1 i2 l1 l2 xs ys (i + 1) → IsPair h' s.heap.objs.size x y → h'.objs.size = s.heap.objs.size + 1 →
      (∀ c o, Out z TO i1 i2 c → s.heap.get? c = some o → h'.get? c = some o) → Q (some (.ref s.heap.objs.size)) { s with heap := h' }) :
    wpAny (model prog w) A (pyNext (.ref z)) Q E s := by
  obtain ⟨ti, h1, h2, e1, e2, f⟩ := st
  have lt : ∀ {c o}, s.heap.get? c = some o → s.heap.objs.size ≠ c := fun e => Nat.ne_of_gt (Heap.lt_size e)
  rcases f with ⟨f1, a, b, f2⟩ | ⟨T, f, oT, f1, f2, f3, f4, f5, f6⟩
  · refine wpAny_pyNext_zip_item D f1 ti f2 h1 h2 e1 e2 hx hy fun h' a1 a2 a3 a4 a5 a6 hk => hQ h' ⟨hk _ _ D.TIz D.TITO D.TIi1 D.TIi2 ti, a3, a4, e1.at fun o e => hk _ o D.l1z D.l1TO D.l1i1 D.l1i2 e, e2.at fun o e => hk _ o D.l2z D.l2TO D.l2i1 D.l2i2 e,
      .inr ⟨_, false, _, a1, a5, lt f1, (by obtain ⟨_, e, _⟩ := h1; exact lt e), (by obtain ⟨_, e, _⟩ := h2; exact lt e), Nat.ne_of_gt hS⟩⟩ a5 a6 fun c o hc e => hk c o hc.1 hc.2.1 hc.2.2.1 hc.2.2.2 e
  · refine wpAny_pyNext_zip_item_held D f1 f2 ti h1 h2 e1 e2 hx hy fun h' a1 a3 a4 a5 a6 hk => hQ h' ⟨hk _ _ D.TIz D.TIi1 D.TIi2 ti, a3, a4, e1.at fun o e => hk _ o D.l1z D.l1i1 D.l1i2 e, e2.at fun o e => hk _ o D.l2z D.l2i1 D.l2i2 e,
      .inr ⟨T, true, oT, a1, hk _ _ f3 f4 f5 f2, f3, f4, f5, f6⟩⟩ a5 a6 fun c o hc e => hk c o hc.1 hc.2.2.1 hc.2.2.2 e
theorem done {S : Addr} {i : Nat} {Q : Option Value → Shared → Prop} (hh : A.handled = none) (D : ZipApart z TI TO i1 i2 l1 l2) (st : St s.heap S z TI TO i1 i2 l1 l2 xs ys i) (hend : xs[i]? = none ∨ ys[i]? = none)
    (hQ : ∀ h', (∀ c o, Out z TO i1 i2 c → s.heap.get? c = some o → h'.get? c = some o) → Q none { s with heap := h' }) : wpAny (model prog w) A (pyNext (.ref z)) Q E s := by
  obtain ⟨ti, h1, h2, e1, e2, f⟩ := st
  rcases f with ⟨f1, a, b, f2⟩ | ⟨T, f, oT, f1, f2, f3, f4, f5, f6⟩
  · exact wpAny_pyNext_zip_end hh D f1 ti f2 h1 h2 e1 e2 hend fun h' hk => hQ h' fun c o hc e => hk c o hc.1 hc.2.1 hc.2.2.1 hc.2.2.2 e
  · exact wpAny_pyNext_zip_end_held hh D f1 f2 ti h1 h2 e1 e2 hend fun h' hk => hQ h' fun c o hc e => hk c o hc.1 hc.2.2.1 hc.2.2.2 e
/-- the addresses as hold the pairs, they lie above lo and rise -/
structure Zg (xs ys : Array Value) (lo : Addr) (h : Heap) (as : List Addr) : Prop where
  rise : as.Pairwise (· < ·)
  above : ∀ a ∈ as, lo < a
  pairs : ∀ (j : Nat) (a : Addr), as[j]? = some a → ∃ x y, xs[j]? = some x ∧ ys[j]? = some y ∧ IsPair h a x y
theorem Zg.there {lo : Addr} {h : Heap} {as : List Addr} (g : Zg xs ys lo h as) {a : Addr} (ha : a ∈ as) : a < h.objs.size := by
  obtain ⟨j, hj⟩ := List.mem_iff_getElem?.mp ha
  obtain ⟨_, _, _, _, e⟩ := g.pairs j a hj
  exact Heap.lt_size e
theorem loop {S : Addr} {n : Nat} {R : Result → Shared → Prop} (hh : A.handled = none) (D : ZipApart z TI TO i1 i2 l1 l2) (hn : n = min xs.size ys.size) (hns : n ≤ sizeLine) (lz : z < S) (lTO : TO < S) (lTI : TI < S) (li1 : i1 < S) (li2 : i2 < S) (ll1 : l1 < S) (ll2 : l2 < S) (res : Value) {h₁ : Heap}
    (hR : ∀ h' tk acc c as, (∀ b o, b ≠ S → Out z TO i1 i2 b → h₁.get? b = some o → h'.get? b = some o) → h'.get? S = some { cls := .type "list", dict := none, data := .seq acc c, slots := #[] } → as.length = n → Zg xs ys S h' as →
      acc.toList = as.map Value.ref → R (.ok (.ret res)) { s with heap := h', toks := tk }) :
    ∀ (k i : Nat) (h : Heap) (tk c : Nat) (acc : Array Value) (as : List Addr), n - i = k → i ≤ n → St h S z TI TO i1 i2 l1 l2 xs ys i → (∀ b o, b ≠ S → Out z TO i1 i2 b → h₁.get? b = some o → h.get? b = some o) →
      h.get? S = some { cls := .type "list", dict := none, data := .seq acc c, slots := #[] } → acc.toList = as.map Value.ref → as.length = i → Zg xs ys S h as →
      codeAny (model prog w) A (.builtin "list.extend.loop" ⟨[.ref S, .ref z, res], []⟩) R { s with heap := h, toks := tk } := by
  have oS : Out z TO i1 i2 S := ⟨Nat.ne_of_gt lz, Nat.ne_of_gt lTO, Nat.ne_of_gt li1, Nat.ne_of_gt li2⟩
  have oA : ∀ {b : Addr}, S < b → Out z TO i1 i2 b := fun hb => ⟨Nat.ne_of_gt (Nat.lt_trans lz hb), Nat.ne_of_gt (Nat.lt_trans lTO hb), Nat.ne_of_gt (Nat.lt_trans li1 hb), Nat.ne_of_gt (Nat.lt_trans li2 hb)⟩
  intro k
  induction k with
  | zero =>
    intro i h tk c acc as hk hi hst hkeep hS hacc hal hG
    have hin : i = n := by omega
    refine codeAny_builtin PySem.F.entry_extend_loop ?_
    rw [Around.under_plainId PySem.F.plain_extend_loop _]
    show wpAny _ A.in1 (pyNext (.ref z) >>= _) _ _ _
    have hend : xs[i]? = none ∨ ys[i]? = none := by
      rcases Nat.le_total xs.size ys.size with q | q
      · exact .inl (Array.getElem?_eq_none (by omega))
      · exact .inr (Array.getElem?_eq_none (by omega))
    refine wpAny_bind (done (s := { s with heap := h, toks := tk }) (A := A.in1) hh D hst hend fun h' he => ?_)
    refine wpAny_pure (hR h' tk acc c as (fun b o h1 h2 e => he b o h2 (hkeep b o h1 h2 e)) (he S _ oS hS) (by omega) ⟨hG.rise, hG.above, fun j a hj => ?_⟩ hacc)
    obtain ⟨x, y, q1, q2, q3⟩ := hG.pairs j a hj
    exact ⟨x, y, q1, q2, he a _ (oA (hG.above a (List.mem_of_getElem? hj))) q3⟩
  | succ k ih =>
    intro i h tk c acc as hk hi hst hkeep hS hacc hal hG
    have hlt : i < n := by omega
    have hsz : acc.size = i := by rw [← Array.length_toList, hacc, List.length_map, hal]
    have hxl : i < xs.size := by omega
    have hyl : i < ys.size := by omega
    refine codeAny_builtin PySem.F.entry_extend_loop ?_
    rw [Around.under_plainId PySem.F.plain_extend_loop _]
    show wpAny _ A.in1 (pyNext (.ref z) >>= _) _ _ _
    refine wpAny_bind (item (s := { s with heap := h, toks := tk }) D hst (Heap.lt_size hS) (Array.getElem?_eq_getElem hxl) (Array.getElem?_eq_getElem hyl) fun h' hst' ht hz hkp => ?_)
    dsimp only at ht hz hkp ⊢
    have hS' := hkp S _ oS hS
    have up : ∀ b o, b ≠ S → h'.get? b = some o → (h'.update S (Obj.mapSeq (·.push (Value.ref h.objs.size)))).get? b = some o := fun b o hb e => (Heap.get?_update_other _ _ (Ne.symm hb)).trans e
    have hSl : S < h.objs.size := Heap.lt_size hS
    show wpAny _ A.in1 (updateSeq S (·.push (Value.ref h.objs.size)) >>= _) _ _ _
    refine wpAny_bind ?_
    refine wpAny_updateSeq hS' rfl (wpAny_pure ⟨plainId_quiet PySem.F.plain_extend_loop _, ih (i + 1) _ tk _ (acc.push (Value.ref h.objs.size)) (as ++ [h.objs.size]) (by omega) hlt (hst'.keep up (Nat.ne_of_lt lTI) (Nat.ne_of_lt li1) (Nat.ne_of_lt li2) (Nat.ne_of_lt ll1) (Nat.ne_of_lt ll2) (Nat.ne_of_lt lz) (Nat.ne_of_lt lTO))
      (fun b o h1 h2 e => up b o h1 (hkp b o h2 (hkeep b o h1 h2 e))) (Heap.get?_update_self _ hS' rfl) (by rw [Array.toList_push, hacc, List.map_append]; rfl) (by rw [List.length_append, hal]; rfl) ⟨?_, ?_, ?_⟩⟩) (by rw [hsz]; omega) (by show (acc.push (Value.ref h.objs.size)).size ≤ sizeLine + 1; rw [Array.size_push, hsz]; omega)
    · refine List.pairwise_append.mpr ⟨hG.rise, List.pairwise_singleton _ _, fun a ha b hb => ?_⟩
      rw [List.mem_singleton.mp hb]
      exact hG.there ha
    · intro a ha
      rcases List.mem_append.mp ha with ha | ha
      · exact hG.above a ha
      · rw [List.mem_singleton.mp ha]; exact hSl
    · intro j b hj
      rcases Nat.lt_trichotomy j as.length with q1 | q1 | q1
      · rw [List.getElem?_append_left q1] at hj
        obtain ⟨x, y, e1, e2, e3⟩ := hG.pairs j b hj
        have hb := hG.above b (List.mem_of_getElem? hj)
        exact ⟨x, y, e1, e2, up b _ (Nat.ne_of_gt hb) (hkp b _ (oA hb) e3)⟩
      · subst q1
        have hb : h.objs.size = b := by simpa using hj
        subst hb
        exact ⟨_, _, by rw [hal]; exact Array.getElem?_eq_getElem hxl, by rw [hal]; exact Array.getElem?_eq_getElem hyl, up _ _ (Nat.ne_of_gt hSl) ht⟩
      · have hnone : (as ++ [h.objs.size])[j]? = none := List.getElem?_eq_none (by rw [List.length_append, List.length_singleton]; omega)
        rw [hnone] at hj; cases hj
/-- list(z) -/
theorem call {n : Nat} {Q : Value → Shared → Prop} (hh : A.handled = none) (D : ZipApart z TI TO i1 i2 l1 l2) (hn : n = min xs.size ys.size) (hns : n ≤ sizeLine)
    (hz : IsZip s.heap z TI TO .none) (hTI : IsPair s.heap TI (.ref i1) (.ref i2)) (hTO : ∃ a b, IsPair s.heap TO a b) (h1 : s.heap.IsListIter i1 l1 0) (h2 : s.heap.IsListIter i2 l2 0) (e1 : s.heap.IsList l1 xs) (e2 : s.heap.IsList l2 ys)
    (hQ : ∀ h' tk acc c as, (∀ b o, Out z TO i1 i2 b → s.heap.get? b = some o → h'.get? b = some o) → h'.get? s.heap.objs.size = some { cls := .type "list", dict := none, data := .seq acc c, slots := #[] } → as.length = n → Zg xs ys s.heap.objs.size h' as →
      acc.toList = as.map Value.ref → Q (.ref s.heap.objs.size) { s with heap := h', toks := tk }) :
    wpAny (model prog w) A (PySem.call (.type "list") [.ref z]) Q E s := by
  obtain ⟨ta, tb, hTO⟩ := hTO
  refine callType_codes (Q₁ := fun obj s₁ => obj = .ref s.heap.objs.size ∧ s₁ = { s with heap := s.heap.push { cls := .type "list", data := .seq #[] } }) PySem.F.called_list (PySem.F.typeCall_list_1 _) PySem.F.entry_list_init
    (code_list_new _ ⟨rfl, rfl⟩) fun obj s₁ h₁ => ?_
  obtain ⟨rfl, rfl⟩ := h₁
  have hS : (s.heap.push { cls := .type "list", data := .seq #[] }).get? s.heap.objs.size = some { cls := .type "list", data := .seq #[] } := Heap.get?_push_size _ rfl
  have lz := Heap.lt_size hz
  have lTI := Heap.lt_size hTI
  have lTO := Heap.lt_size hTO
  have li1 : i1 < s.heap.objs.size := by obtain ⟨_, e, _⟩ := h1; exact Heap.lt_size e
  have li2 : i2 < s.heap.objs.size := by obtain ⟨_, e, _⟩ := h2; exact Heap.lt_size e
  have ll1 : l1 < s.heap.objs.size := by obtain ⟨_, e, _⟩ := e1; exact Heap.lt_size e
  have ll2 : l2 < s.heap.objs.size := by obtain ⟨_, e, _⟩ := e2; exact Heap.lt_size e
  refine ⟨⟨_, hS, rfl⟩, PySem.F.args_list_init_2 _ _, ?_⟩
  generalize hSd : s.heap.objs.size = S at *
  show wpAny _ _ (do let old ← Builtin.List.listItems (.ref S); Builtin.List.listUpdate (.ref S) (fun _ => #[]); letGo old.toList.reverse; Builtin.List.listExtendWith (.ref S) (.ref z) .none) _ _ _
  refine wpAny_bind ?_
  unfold Builtin.List.listItems
  refine wpAny_bind (wpAny_seqItems hS rfl (wpAny_pure ?_))
  show wpAny _ _ (updateSeq S (fun _ => #[]) >>= fun _ => letGo (#[] : Array Value).toList.reverse >>= fun _ => Builtin.List.listExtendWith (.ref S) (.ref z) .none) _ _ _
  refine wpAny_bind (wpAny_updateSeq hS rfl ?_)
  have hS₂ := Heap.get?_update_self (Obj.mapSeq (fun _ => (#[] : Array Value))) hS rfl
  have oth : ∀ b o, s.heap.get? b = some o → ((s.heap.push { cls := .type "list", data := .seq #[] }).update S (Obj.mapSeq (fun _ => (#[] : Array Value)))).get? b = some o :=
    fun b o e => (Heap.get?_update_other _ _ (by rw [← hSd]; exact Nat.ne_of_gt (Heap.lt_size e))).trans (Heap.get?_push_of_some _ e)
  refine wpAny_bind (wpAny_letGo ?_)
  unfold Builtin.List.listExtendWith
  have hz2 := oth _ _ hz
  refine wpAny_bind (wpAny_typeOf (T := "zip") ⟨_, hz2, rfl⟩ ?_)
  have g1 : Builtin.List.listSameRef (.ref S) (.ref z) = false := by simp [Builtin.List.listSameRef, Nat.ne_of_gt lz]
  have g2 : (Value.type "zip" == Value.type "list") = false := by decide
  have g3 : (Value.type "zip" == Value.type "tuple") = false := by decide
  simp only [g1, g2, g3, Bool.or_false, Bool.false_eq_true, if_false]
  refine wpAny_bind (wpAny_pyIter_zip hz2 ?_)
  refine wpAny_bind (wpAny_holding ?_)
  unfold Builtin.List.listLengthHint
  refine wpAny_bind (wpAny_specialOf (T := "zip") ⟨_, hz2, rfl⟩ no_len ?_)
  show wpAny _ _ (specialOf (Value.ref z) (Str.ofString "__length_hint__") >>= _) _ _ _
  refine wpAny_bind (wpAny_specialOf (T := "zip") ⟨_, hz2, rfl⟩ no_hint ?_)
  refine wpAny_pure ?_
  show wpAny _ _ (rule "list.extend.makes-room" >>= fun _ => Builtin.List.listTouch (.ref S) >>= fun _ => again (.builtin "list.extend.loop" ⟨[.ref S, .ref z, .none], []⟩)) _ _ _
  refine wpAny_bind (wpAny_rule ?_)
  refine wpAny_bind ?_
  show wpAny _ _ (updateSeq S (·.push .none) >>= fun _ => updateSeq S (·.pop)) _ _ _
  refine wpAny_bind (wpAny_updateSeq hS₂ rfl ?_)
  have hS₃ := Heap.get?_update_self (Obj.mapSeq (·.push Value.none)) hS₂ rfl
  refine wpAny_updateSeq (hz := by seq_fits) hS₃ rfl ?_
  have hS₄ := Heap.get?_update_self (Obj.mapSeq (·.pop)) hS₃ rfl
  have ot4 : ∀ b o, s.heap.get? b = some o → ((((s.heap.push { cls := .type "list", data := .seq #[] }).update S (Obj.mapSeq (fun _ => (#[] : Array Value)))).update S (Obj.mapSeq (·.push Value.none))).update S (Obj.mapSeq (·.pop))).get? b = some o := fun b o e => by
    have ne : S ≠ b := by rw [← hSd]; exact Nat.ne_of_gt (Heap.lt_size e)
    exact (Heap.get?_update_other _ _ ne).trans ((Heap.get?_update_other _ _ ne).trans (oth b o e))
  refine wpAny_pure ⟨plainId_quiet PySem.F.plain_extend_loop _, loop (s := s) (A := A.in1) (n := n) (h₁ := s.heap) hh D hn hns lz lTO lTI li1 li2 ll1 ll2 .none (fun h' tk acc c as hk hS' hl hG hacc => ?_) n 0 _ _ _ #[] [] (Nat.sub_zero _) (Nat.zero_le _)
    ⟨ot4 _ _ hTI, h1.at fun o e => ot4 _ o e, h2.at fun o e => ot4 _ o e, e1.at fun o e => ot4 _ o e, e2.at fun o e => ot4 _ o e, .inl ⟨ot4 _ _ hz, _, _, ot4 _ _ hTO⟩⟩ (fun b o _ _ e => ot4 b o e) hS₄ rfl rfl ⟨List.Pairwise.nil, (fun _ ha => nomatch ha), (fun j a hj => by simp at hj)⟩⟩
  exact ⟨rfl, hQ h' tk acc c as (fun b o ho e => hk b o (by rw [← hSd]; exact Nat.ne_of_lt (Heap.lt_size e)) ho e) hS' hl hG hacc⟩
end
/-- the pairs tracked at their addresses -/
def putP : Hp → List Addr → List (V × V) → Hp
  | H, a :: as, p :: kvs => putP (upd H a (.tup [p.1, p.2])) as kvs
  | H, _, _ => H
theorem putP_off {b : Addr} : ∀ (as : List Addr) (kvs : List (V × V)) (H : Hp), b ∉ as → putP H as kvs b = H b
  | [], _, _, _ => rfl
  | _ :: _, [], _, _ => rfl
  | a :: as, p :: kvs, H, h => by
    show putP (upd H a (.tup [p.1, p.2])) as kvs b = H b
    rw [putP_off as kvs _ (fun z => h (List.mem_cons_of_mem _ z)), upd_ne (fun z => h (by rw [z]; exact List.mem_cons_self))]
theorem putP_at : ∀ (as : List Addr) (kvs : List (V × V)) (H : Hp), as.length = kvs.length → as.Nodup → Paired (fun (t : Addr) (p : V × V) => putP H as kvs t = some (.tup [p.1, p.2])) as kvs
  | [], [], _, _, _ => .nil
  | [], _ :: _, _, h, _ => by cases h
  | _ :: _, [], _, h, _ => by cases h
  | a :: as, p :: kvs, H, h, hn => by
    have hn' := List.nodup_cons.mp hn
    have ih := putP_at as kvs (upd H a (.tup [p.1, p.2])) (Nat.succ.inj h) hn'.2
    refine .cons ?_ ih
    show putP (upd H a (.tup [p.1, p.2])) as kvs a = some (.tup [p.1, p.2])
    rw [putP_off as kvs _ hn'.1, upd_same]
section
variable {X : Cx}
theorem laidP {pins : List (Addr × Obj)} {σ : L2.St} {H : Hp} {s : Shared} {h' : Heap} {tk S : Nat} {xs ys : List V} {its its2 : List Value} {acc : Array Value} {c : Nat} {as : List Addr} (I : Inv X pins σ H s) (r1 : Vals xs its) (r2 : Vals ys its2) (hlow : s.heap.objs.size ≤ S)
    (hk : ∀ b o, s.heap.get? b = some o → h'.get? b = some o) (hS : h'.get? S = some { cls := .type "list", dict := none, data := .seq acc c, slots := #[] }) (hl : as.length = min xs.length ys.length) (hz : as.length ≤ sizeLine) (hG : Zg its.toArray its2.toArray S h' as) (hacc : acc.toList = as.map Value.ref) :
    ∃ H' : Hp, (∀ b o, H b = some o → H' b = some o) ∧ H S = none ∧ (∀ t ∈ as, H t = none) ∧ S ∉ as ∧ H' S = some (.lst (as.map V.ref)) ∧ Paired (fun (t : Addr) (q : V × V) => H' t = some (.tup [q.1, q.2])) as (xs.zip ys) ∧ Inv X pins σ H' { s with heap := h', toks := tk } := by
  have hSn : S ∉ as := fun z => Nat.lt_irrefl _ (hG.above _ z)
  have nd : as.Nodup := List.Pairwise.imp (fun {a b} (h : a < b) => Nat.ne_of_lt h) hG.rise
  have new : ∀ t ∈ as, H t = none := fun t ht => I.hok.fresh (Nat.le_trans hlow (Nat.le_of_lt (hG.above t ht)))
  have newS : H S = none := I.hok.fresh hlow
  have atP := putP_at as (xs.zip ys) (upd H S (.lst (as.map V.ref))) (by rw [hl, List.length_zip]) nd
  have off : ∀ b, b ∉ as → b ≠ S → putP (upd H S (.lst (as.map V.ref))) as (xs.zip ys) b = H b := fun b h1 h2 => by rw [putP_off as _ _ h1, upd_ne h2]
  have low : ∀ b o, s.heap.get? b = some o → b ∉ as ∧ b ≠ S := fun b o e => ⟨fun z => absurd (Heap.lt_size e) (Nat.not_lt.mpr (Nat.le_trans hlow (Nat.le_of_lt (hG.above b z)))), Nat.ne_of_lt (Nat.lt_of_lt_of_le (Heap.lt_size e) hlow)⟩
  have kp : ∀ b u, H b = some u → (putP (upd H S (.lst (as.map V.ref))) as (xs.zip ys)) b = some u := fun b u e => by
    rw [off b (fun z => by rw [new b z] at e; cases e) (fun z => by rw [z, newS] at e; cases e)]
    exact e
  have eS : putP (upd H S (.lst (as.map V.ref))) as (xs.zip ys) S = some (.lst (as.map V.ref)) := by rw [putP_off as _ _ hSn, upd_same]
  refine ⟨putP (upd H S (.lst (as.map V.ref))) as (xs.zip ys), kp, newS, new, hSn, eS, atP, ?_⟩
  refine I.call' (ch := []) rfl ⟨fun b o q _ _ _ => hk b o q, fun b o q _ _ _ => ⟨o.slots, hk b o q⟩, fun b o q n _ => ?_, fun b o q _ => ⟨o, hk b o q⟩, fun b xs q => kp b _ q, fun b o u q => kp b _ q, fun b ps q => ⟨#[], by rw [kp b _ q]; simp⟩⟩ (fun b u q => ?_) I.bare fun b z => by simp at z
  · obtain ⟨z1, z2⟩ := low b o q
    rw [off b z1 z2]
    exact n
  · by_cases hb : b ∈ as
    · obtain ⟨j, pk, e1, e2, e3⟩ := LiI.paired_ix atP hb
      rw [e3] at q
      cases q
      obtain ⟨x, y, f1, f2, f3⟩ := hG.pairs j b e1
      have g1 : xs[j]? = some pk.1 ∧ ys[j]? = some pk.2 := by
        obtain ⟨h1, h2⟩ := List.getElem?_zip_eq_some.mp e2
        exact ⟨h1, h2⟩
      obtain ⟨u, hu, ru⟩ := r1.get g1.1
      obtain ⟨v, hv, rv⟩ := r2.get g1.2
      have f1' : its[j]? = some x := by rw [← f1]; simp
      have f2' : its2[j]? = some y := by rw [← f2]; simp
      rw [f1'] at hu
      rw [f2'] at hv
      cases hu
      cases hv
      exact ⟨by show 2 ≤ sizeLine; decide, [x, y], .cons ru (.cons rv .nil), ⟨_, f3, rfl, _, rfl⟩⟩
    · by_cases hb2 : b = S
      · rw [hb2] at q ⊢
        rw [eS] at q
        cases q
        refine ⟨by rw [List.length_map]; exact hz, acc.toList, c, by rw [hacc]; exact LiI.vals_refs as, ?_⟩
        rw [Array.toArray_toList]
        exact hS
      · rw [off b hb hb2] at q
        exact (I.hok b u q).stay (fun d v _ y => hk d v y) (fun d y => kp d _ y) fun d xs y => kp d _ y
def tZipL (K : PySem.W.Frag) (ta : TA) : TE := fun σ H Q => ta σ H fun vs H1 => ∃ a b xs ys, vs = [.ref a, .ref b] ∧ SqL K H1 a xs ∧ SqL K H1 b ys ∧
  ∀ (H' : Hp) (p : Addr) (ts : List Addr), (∀ b o, H1 b = some o → H' b = some o) → H1 p = none → (∀ t ∈ ts, H1 t = none) → p ∉ ts → H' p = some (.lst (ts.map V.ref)) → Paired (fun (t : Addr) (q : V × V) => H' t = some (.tup [q.1, q.2])) ts (xs.zip ys) → Q (.ref p) H'
/-- list(zip(e, e2)) -/
theorem pe_zipL {e e2 : Expr} {ta : TA} {p p2 pos pos2 : Pos} (hc : X.calm = true) (hg : Gl X "list") (hm : X.mg "list" = none) (hg2 : Gl X "zip") (hm2 : X.mg "zip" = none) (ha : PA X [e, e2] ta)
    (hs : starEach [e, e2] X.env = (false, eval e X.env) :: starEach [e2] X.env := by rfl) (hpl : (backTo pos2 (starEach [e2] X.env)).any (·.1) = false := by rfl)
    (na : starEach [.Call (.Name "zip" p2) [e, e2] [] pos2] X.env = (false, eval (.Call (.Name "zip" p2) [e, e2] [] pos2) X.env) :: starEach [] X.env := by rfl) :
    PE X (.Call (.Name "list" p) [.Call (.Name "zip" p2) [e, e2] [] pos2] [] pos) (tZipL X.K ta) := by
  refine ⟨fun pins s σ H Q I h => ?_⟩
  refine Call_ (ld_blt I hg hm boot_list (PyProof.Rows.callWith_type1 (args_cons (Call_ (ld_blt I hg2 hm2 PyProof.Rows.boot_zip (PyProof.Rows.callWith_type1 (thn (ha.run pos2 pins s σ H _ I h) fun us s1 ⟨vs, H1, I1, r1, q1⟩ => ?_) hs hpl))) na) na))
  obtain ⟨a, b, xs, ys, ex, hqx, hqy, q⟩ := q1
  subst ex
  cases r1 with
  | cons r rr =>
    cases rr with
    | cons r' rr =>
      cases rr
      cases r
      cases r'
      obtain ⟨its, rv, p1, z1⟩ := I1.list hqx
      obtain ⟨its2, rv2, p2', z2⟩ := I1.list hqy
      have la : a < s1.heap.objs.size := p1.lt
      have lb : b < s1.heap.objs.size := p2'.lt
      have l1 := rv.length
      have l2 := rv2.length
      refine call_zip_2 p1.isList p2'.isList fun h' hz hTI hTO h1 h2 hsz hk => args_nil ?_
      refine call (s := { s1 with heap := h' }) (n := min its.toArray.size its2.toArray.size) (I1.ok.hd hc) (PySem.W.ktu_apart s1.heap.objs.size a b la lb) rfl (by rw [List.size_toArray, ← l1]; omega) hz hTI ⟨_, _, hTO⟩ h1 h2 (p1.isList.at fun o e => hk _ o e) (p2'.isList.at fun o e => hk _ o e) fun h2 tk acc c as hk2 hS hl hG hacc => ?_
      have kk : ∀ b o, s1.heap.get? b = some o → h2.get? b = some o := fun b o e => by
        have hb := Heap.lt_size e
        exact hk2 b o ⟨Nat.ne_of_lt (Nat.lt_of_lt_of_le hb (Nat.le_add_right _ _)), Nat.ne_of_lt (Nat.lt_of_lt_of_le hb (Nat.le_add_right _ _)), Nat.ne_of_lt hb, Nat.ne_of_lt (Nat.lt_of_lt_of_le hb (Nat.le_add_right _ _))⟩ (hk b o e)
      obtain ⟨H', k1, k2, k3, k4, k5, k6, J⟩ := laidP (tk := tk) I1 rv rv2 (by show s1.heap.objs.size ≤ h'.objs.size; omega) kk hS (by rw [hl, List.size_toArray, List.size_toArray, l1, l2]) (by rw [hl, List.size_toArray, ← l1]; omega) hG hacc
      exact ⟨.ref _, H', J, rfl, q H' _ as k1 k2 k3 k4 k5 k6⟩
end
end ZL
/-! xs[a:b] = ys -/
section
variable {X : Cx}
def gSlS (to : TE) (tl th : TO) : TG := fun v σ H Q => to σ H fun o H1 => tl σ H1 fun i H2 => th σ H2 fun j H3 => ∃ l b xs ys a c, o = .ref l ∧ v = .ref b ∧ i = some a ∧ j = some c ∧ H3 l = some (.lst xs) ∧ H3 b = some (.lst ys) ∧ l ≠ b ∧ 0 ≤ a ∧ a ≤ c ∧ c ≤ xs.length ∧ xs.length + ys.length ≤ sizeLine ∧
  Q σ (upd H3 l (.lst (xs.take a.toNat ++ ys ++ xs.drop c.toNat)))
theorem pg_slice {o a b : Expr} {to : TE} {tl th : TE} {p2 pos : Pos} (ho : PE X o to) (hl : PE X a tl) (hu : PE X b th)
    (ha : ∀ v, assign (.Subscript o (.Slice (some a) (some b) none p2) pos) X.env v = (do
      let ov ← holding [v] (eval o X.env)
      let iv ← holding [v, ov] (eval (.Slice (some a) (some b) none p2) X.env)
      standAt pos
      holding [v, ov, iv] (setItem ov iv v)
      release [v, ov, iv] []) := by intro _; rfl) : PG X (.Subscript o (.Slice (some a) (some b) none p2) pos) (gSlS to (tPart tl) (tPart th)) := by
  refine ⟨fun pins s σ H v u Q I r h => ?_⟩
  rw [ha]
  refine wpAny_bind (wpAny_holding (thn (ho.run pins s σ H _ I h) fun ov s1 ⟨x, H1, I1, r1, q1⟩ => ?_))
  refine wpAny_bind (wpAny_holding (wpAny_Slice (thn ((po_some hl).run pins s1 σ H1 _ I1 q1) fun vl s2 ⟨i, H2, I2, pl, q2⟩ => thn ((po_some hu).run pins s2 σ H2 _ I2 q2) fun vu s3 ⟨j, H3, I3, pu, q3⟩ => ?_)))
  rw [evalPart_none]
  refine wpAny_pure ?_
  have I4 : Inv X pins σ H3 { s3 with heap := s3.heap.push { cls := .type "slice", data := .fields #[vl, vu, .none] } } := I3.kept (t' := s3.toks) fun b ob q => Heap.get?_push_of_some _ q
  obtain ⟨l, bb, xs, ys, ai, ci, e1, e2, e3, e4, hx, hy, hne, h0, hac, hc, hz, q⟩ := q3
  subst e1 e2 e3 e4
  cases r1
  cases r
  have rl : RelV (.int ai) vl := by cases pl; exact ⟨_, rfl⟩
  have ru : RelV (.int ci) vu := by cases pu; exact ⟨_, rfl⟩
  refine wpAny_bind (wpAny_standAt (wpAny_bind (wpAny_holding ?_)))
  refine set_slice I4 hx hy hne (Heap.IsSliceOf.new ..) rl ru h0 hac hc hz fun s5 I5 => ?_
  exact wpAny_release ⟨σ, _, I5, q⟩
end
/-! for k, v in d.items(), the keys tuples -/
namespace ZI
section
variable {X : Cx} {pins : List (Addr × Obj)} {σ : L2.St} {H : Hp} {s : Shared} {d : Addr} {o : Obj}
theorem frzTV {kvs : List (List L2.Key × V)} (I : Inv X pins σ H s) (h : H d = some (.frz o (.dT kvs))) :
    (d == sysModules) = false ∧ s.heap.get? d = some o ∧ o.ExactDict ∧ ∃ (es : Array DictEntry) (ep : Nat), o.data = .dict es ep ∧ es.size = kvs.length ∧
      ∀ (i : Nat) (k : List L2.Key) (v : V), kvs[i]? = some (k, v) → ∃ (en : DictEntry) (q : Addr), es[i]? = some en ∧ en.key = .ref q ∧ H q = some (.tup (k.map kV)) ∧ RelV v en.val := by
  obtain ⟨hd, z, hs, xs, pr, o', es, ep, ho, hx, hdt, he, _⟩ := I.hok d _ h
  rw [hd] at ho
  cases ho
  refine ⟨hs, hd, hx, es, ep, hdt, ?_, fun i k v e => ?_⟩
  · have l1 : es.size = xs.length := size_of_entries he
    have l2 : kvs.length = xs.length := Paired.length pr
    omega
  · obtain ⟨b, hb, e1, e2, e3⟩ := paired_get pr e
    have q := entry_at he i
    rw [hb] at q
    exact ⟨_, b.2.1, q, rfl, e2, e3⟩
end
/-- the pairs of a locked dict with tuple keys, each a new tuple -/
def It (d : Addr) (o : Obj) (kvs : List (List L2.Key × V)) : L2.It :=
  ⟨fun i H => H d = some (.frz o (.dT kvs)) ∧ i < kvs.length, fun i H x H' => ∃ T k v q, kvs[i]? = some (k, v) ∧ H q = some (.tup (k.map kV)) ∧ x = .ref T ∧ H T = none ∧ H' = upd H T (.tup [.ref q, v]), fun i H => H d = some (.frz o (.dT kvs)) ∧ kvs.length ≤ i⟩
theorem walk {d : Addr} {o : Obj} {kvs : List (List L2.Key × V)} : Walk (It d o kvs) kvs.length (fun H => H d = some (.frz o (.dT kvs)))
    (fun i H x H' => ∃ T k v q, kvs[i]? = some (k, v) ∧ H q = some (.tup (k.map kV)) ∧ x = .ref T ∧ H T = none ∧ H' = upd H T (.tup [.ref q, v])) :=
  ⟨fun _ _ hi q => ⟨q, hi⟩, fun _ q => ⟨q, Nat.le_refl _⟩, fun _ _ _ _ _ _ y => y⟩
theorem turn {P : Program} {w : World} {K : PySem.W.Frag} {d : Addr} {o : Obj} {es : Array DictEntry} {ep : Nat} {kvs : List (List L2.Key × V)} {elts : List Expr} {kk : Nat} {tpos : Pos} (it : Addr) (hod : o.data = .dict es ep) :
    Turn P w K (.Tuple elts kk tpos) (It d o kvs) [it] it (fun i h => ∃ ok ov, IsItemIter h it d i es.size ep ok ov) where
  mem := by simp
  obj := fun i h st b hb => by
    have e : b = it := by simpa using hb
    subst e
    obtain ⟨ok, ov, e⟩ := st
    exact ⟨_, e, fun v z => nomatch z⟩
  keep := fun i h h' st k => let ⟨ok, ov, e⟩ := st; ⟨ok, ov, k it (by simp) _ e⟩
  item := by
    intro X hP hw hK hc i pins s σ H E I hf st hg
    subst hP hw hK
    obtain ⟨hd, hi⟩ := hg
    obtain ⟨hs, hgd, hx, es', ep', hdt, hsz, ent⟩ := frzTV I hd
    obtain ⟨rfl, rfl⟩ := dict_ep hod hdt
    obtain ⟨⟨k, v⟩, hkv⟩ : ∃ p, kvs[i]? = some p := ⟨kvs[i], List.getElem?_eq_getElem hi⟩
    obtain ⟨en, q, hen, hkey, hq, ru⟩ := ent i k v hkv
    obtain ⟨ok, ov, he⟩ := st
    have hlt : it < s.heap.objs.size := Heap.lt_size he
    have hie : i < es'.size := by omega
    have een : es'[i] = en := by
      rw [Array.getElem?_eq_getElem hie] at hen
      exact Option.some.inj hen
    refine wpAny_pyNext_items_item_raw he ⟨o, hgd, hx, hdt⟩ hie fun h' ho hT hz hk => ?_
    refine ⟨_, rfl, wpAny_letOwnedTupleGo_items (s := { s with heap := h' }) ho fun h'' he' sb => ?_⟩
    have hT2 : h''.get? s.heap.objs.size = some { cls := .type "tuple", data := .seq #[.ref q, en.val] } := by
      have := (sb.2 _ (Nat.ne_of_gt hlt)).trans hT
      rw [een, hkey] at this
      exact this
    have new : ObjOk X.prog X.w (upd H s.heap.objs.size (.tup [.ref q, v])) h'' s.heap.objs.size (.tup [.ref q, v]) :=
      ⟨by show 2 ≤ sizeLine; decide, [.ref q, en.val], .cons rfl (.cons ru .nil), ⟨_, hT2, rfl, _, rfl⟩⟩
    have I1 : Inv X pins σ (upd H s.heap.objs.size (.tup [.ref q, v])) { s with heap := h'' } :=
      I.turnedNew (t' := s.toks) (ch := [it]) (fun b ob hb e => (sb.2 b (by simpa using hb)).trans (hk b ob (by simpa using hb) e)) hf (Nat.le_refl _) new
    refine ⟨.ref s.heap.objs.size, _, I1, rfl, ⟨_, k, v, q, hkv, hq, rfl, I.hok.fresh (Nat.le_refl _), rfl⟩, ⟨_, _, he'⟩, fun b hb => ?_⟩
    · have e : b = it := by simpa using hb
      rw [e, upd_ne (Nat.ne_of_lt hlt)]
      exact (hf it (by simp)).1
  done := by
    intro X hP hw hK hc i pins s σ H E I hf st hg
    subst hP hw hK
    obtain ⟨hd, hi⟩ := hg
    obtain ⟨f0, f1, f2, f3, f4, f5⟩ := hf it (by simp)
    obtain ⟨hs, hgd, hx, es', ep', hdt, hsz, ent⟩ := frzTV I hd
    obtain ⟨rfl, rfl⟩ := dict_ep hod hdt
    obtain ⟨ok, ov, he⟩ := st
    exact wpAny_pyNext_items_end_raw (I.ok.hd hc) he ⟨o, hgd, hx, hdt⟩ (by omega) fun h' eb => ⟨rfl, I.turned (t' := s.toks) (fun b ob hb e => eb b ob hb e) f0 f1 f3 f4 f5⟩
  self := fun A i s Q E st h => let ⟨_, _, e⟩ := st; PySem.W.kcp_self e h
def iItems (td : TE) : TI := fun σ H R => td σ H fun x H1 => ∃ d o kvs, x = .ref d ∧ H1 d = some (.frz o (.dT kvs)) ∧ R (It d o kvs) H1
section
variable {X : Cx} {tg e : Expr} {td : TE} {apos cpos : Pos}
theorem pi_items {elts : List Expr} {kk : Nat} {tpos : Pos} (he : PE X e td) (hbase : attributeBase e "items" X.env (eval e X.env) = eval e X.env := by rfl) (hline : (apos.endLine == cpos.line) = true := by rfl) :
    PI X (.Tuple elts kk tpos) (.Call (.Attribute e "items" apos) [] [] cpos) (iItems td) := by
  refine ⟨fun pins s σ H R I h => ?_⟩
  refine wpAny_Call_method (T := "dict") (id := "dict.items") hbase rfl hline F.plainAttrs_dict F.slot_dict_items F.type_dict_items (thn (he.run pins s σ H _ I h) fun u s1 ⟨x, H1, I1, rx, d, o, kvs, ex, hd, q⟩ => ?_)
  subst ex
  obtain rfl : u = Value.ref d := rx
  obtain ⟨hs, hgd, hx, es, ep, hdt, hsz, ent⟩ := frzTV I1 hd
  refine ⟨⟨o, hgd, hx.1⟩, fun a e2 => ?_, ?_⟩
  · cases e2
    exact ⟨o, hgd, hx.2.1⟩
  have I2 : Inv X pins σ H1 { s1 with heap := s1.heap.push { cls := .type "dict_items", data := .fields #[.ref d] } } := I1.kept (t' := s1.toks) fun b ob q => Heap.get?_push_of_some _ q
  refine Calls.callWith_builtin rfl (PySem.evalArgs_none (DT.callItems (es := es) (ep := ep) hs ⟨o, hgd, hx, hdt⟩ ?_))
  refine wpAny_pyIter_items_raw (d := d) (s := { s1 with heap := s1.heap.push { cls := .type "dict_items", data := .fields #[.ref d] } }) ⟨_, Heap.get?_push_size _ rfl, rfl, rfl⟩ ⟨o, Heap.get?_push_of_some _ hgd, hx, hdt⟩ (pi_one (tk := s1.toks) I2 _ (turn _ hdt) ⟨.none, .none, Heap.get?_push_size _ rfl⟩ q)
end
end ZI
end EL
namespace EW
open PySem PyProof.Rows
open Sem (wp)
/-! ### enumerate(t), t a tuple -/
set_option maxHeartbeats 1000000 in
theorem newEnumT (tp : Addr) (its : Array Value) : Meets (Builtin.«enumerate.__new__» ⟨[.type "enumerate", .ref tp], []⟩) (fun _ RR s1 => s1.heap.IsTuple tp its ∧
      RR (.ok (.ret (.ref (s1.heap.objs.size + 1)))) { s1 with heap := (s1.heap.push { cls := .type "tuple_iterator", data := .fields #[.ref tp, .int 0 0] }).push { cls := .type "enumerate", data := .fields #[.none, .bool false, .ref s1.heap.objs.size, rawInt 0, .none, .none] } }) :=
  .of_wp fun pr ww AA RR s1 hyp => by
    obtain ⟨hh, gg, dd, tt, oo⟩ := s1
    obtain ⟨isT, hyp⟩ := hyp
    have se := sub_enumerate
    have it1 : ∀ {A' : Around} {E' : Value → Shared → Prop} {Q' : Value → Shared → Prop}, Q' (.ref hh.objs.size) ⟨hh.push { cls := .type "tuple_iterator", data := .fields #[.ref tp, .int 0 0] }, gg, dd, tt, oo⟩ →
        wpAny (model pr ww) A' (pyIter (.ref tp)) Q' E' ⟨hh, gg, dd, tt, oo⟩ := fun q => wpAny_pyIter_tuple (s := ⟨hh, gg, dd, tt, oo⟩) isT q
    have hz : (hh.push { cls := .type "tuple_iterator", data := .fields #[.ref tp, .int 0 0] }).objs.size = hh.objs.size + 1 := Heap.size_push ..
    have done : RR (.ok (.ret (.ref (hh.push { cls := .type "tuple_iterator", data := .fields #[.ref tp, .int 0 0] }).objs.size))) ⟨(hh.push { cls := .type "tuple_iterator", data := .fields #[.ref tp, .int 0 0] }).push { cls := .type "enumerate", data := .fields #[.none, .bool false, .ref hh.objs.size, rawInt 0, .none, .none] }, gg, dd, tt, oo⟩ := by
      rw [hz]; exact hyp
    wp_walk using it1
    refine wpAny_stack_any fun _ => wpAny_pure ?_
    split
    · rename_i cc _ _ _ _ _
      cases (cc == Value.type "enumerate") <;> (wp_walk using it1; exact ⟨_, rfl, done⟩)
    · wp_walk using it1
      exact ⟨_, rfl, done⟩
theorem callEnumT {prog : Program} {w : World} {A : Around} {E : Value → Shared → Prop} {s : Shared} {tp : Addr} {its : Array Value} {Q : Value → Shared → Prop} (isT : s.heap.IsTuple tp its)
    (q : ∀ h', IsEnum h' (s.heap.objs.size + 1) s.heap.objs.size 0 .none → h'.IsTupleIter s.heap.objs.size tp 0 → (∀ b o, s.heap.get? b = some o → h'.get? b = some o) → Q (.ref (s.heap.objs.size + 1)) { s with heap := h' }) :
    wpAny (model prog w) A (call (.type "enumerate") [.ref tp]) Q E s := by
  have hz : (s.heap.push { cls := .type "tuple_iterator", data := .fields #[.ref tp, .int 0 0] }).objs.size = s.heap.objs.size + 1 := Heap.size_push ..
  have he : IsEnum ((s.heap.push { cls := .type "tuple_iterator", data := .fields #[.ref tp, .int 0 0] }).push { cls := .type "enumerate", data := .fields #[.none, .bool false, .ref s.heap.objs.size, rawInt 0, .none, .none] }) (s.heap.objs.size + 1) s.heap.objs.size 0 .none := by
    have k := Heap.get?_push_size (s.heap.push { cls := .type "tuple_iterator", data := .fields #[.ref tp, .int 0 0] }) (o := { cls := .type "enumerate", data := .fields #[.none, .bool false, .ref s.heap.objs.size, rawInt 0, .none, .none] }) rfl
    rw [hz] at k
    exact k
  exact callType_new F.called_enumerate (by decide) (F.typeCall_enumerate_1 _) (F.newCall_enumerate_1 _) (fun ob => F.args_object_init_2 ob _) F.entry_enumerate_new (newEnumT tp its)
    ⟨isT, ⟨_, he, rfl⟩, q _ he ⟨_, Heap.get?_push_of_some _ (Heap.get?_push_size _ rfl), rfl, rfl⟩ fun b o x => Heap.get?_push_of_some _ (Heap.get?_push_of_some _ x)⟩
end EW
namespace EL
open PySem PySem.Spec PyProof.Rows L2 He TL
/-- the tuple at a, each item in a new pair with its number -/
def Itet (K : PySem.W.Frag) (a : Addr) : It :=
  ⟨fun i H => ∃ (xs : List V) (x : V), SqT K H a xs ∧ xs[i]? = some x, fun i H v H' => ∃ T x, v = .ref T ∧ H T = none ∧ H' = upd H T (.tup [.int (i : Nat), x]) ∧ ∀ xs, SqT K H a xs → xs[i]? = some x, fun i H => ∃ xs : List V, SqT K H a xs ∧ xs.length = i⟩
theorem turn_enumT {P : Program} {w : World} {K : PySem.W.Frag} {elts : List Expr} {kk : Nat} {tpos : Pos} (a e it : Addr) (h1 : e ≠ it) (h2 : e ≠ a) (h3 : a ≠ it) :
    Turn P w K (.Tuple elts kk tpos) (Itet K a) [e, it] e (fun i h => (∃ old, IsEnum h e it ((i : Nat) : Int) old) ∧ h.IsTupleIter it a i) where
  mem := List.mem_cons_self
  obj := fun i h st b hb => by
    obtain ⟨⟨old, he⟩, o, ho, hc, hd⟩ := st
    rcases List.mem_cons.mp hb with z | z
    · rw [z]; exact ⟨_, he, fun v q => nomatch q⟩
    · rw [List.mem_singleton.mp z]
      exact ⟨o, ho, fun v q => by rw [hd] at q; cases q⟩
  keep := fun i h h' st k => ⟨let ⟨old, he⟩ := st.1; ⟨old, k e (by simp) _ he⟩, st.2.at fun o q => k it (by simp) o q⟩
  item := by
    intro X hP hw hK hc i pins s σ H E I hf st hg
    subst hP hw hK
    obtain ⟨⟨old, he⟩, hit⟩ := st
    obtain ⟨xs, x, hq, hx⟩ := hg
    obtain ⟨its, rv, p, hz⟩ := I.tuple hq
    obtain ⟨u, hu, ru⟩ := rv.get hx
    have p' : s.heap.IsTuple a its.toArray := p
    have hel : e < s.heap.objs.size := Heap.lt_size he
    have hil : it < s.heap.objs.size := let ⟨_, q, _⟩ := hit; Heap.lt_size q
    have hi : i < its.toArray.size := by
      have := (List.getElem?_eq_some_iff.mp hu).1
      simpa using this
    refine wpAny_pyNext_enum_itemC (Draws.tuple (A := X.A.in1) (I.ok.hd hc) it a h3 its.toArray) he ⟨hit, p'⟩ hi h1 (by simp [h1, h2]) fun y h' tk hy ho st' hT hsz hk => ?_
    have ey : y = u := by
      have hy' : its.toArray[i]? = some y := hy
      rw [List.getElem?_toArray, hu] at hy'
      exact (Option.some.inj hy').symm
    subst ey
    refine ⟨_, rfl, wpAny_letOwnedTupleGo_enum (s := { s with heap := h', toks := tk + 1 }) ho fun h'' he' sb => ?_⟩
    have hT2 := (sb.2 _ (Nat.ne_of_gt hel)).trans hT
    have hN : ObjOk X.prog X.w (upd H s.heap.objs.size (.tup [.int (i : Nat), x])) h'' s.heap.objs.size (.tup [.int (i : Nat), x]) :=
      ⟨by show 2 ≤ sizeLine; decide, [.int i tk, y], .cons ⟨_, rfl⟩ (.cons ru .nil), ⟨_, hT2, rfl, _, rfl⟩⟩
    have I1 : Inv X pins σ (upd H s.heap.objs.size (.tup [.int (i : Nat), x])) { s with heap := h'', toks := tk + 1 } :=
      I.turnedNew (ch := [e, it]) (fun b ob hb q => (sb.2 b (fun z => hb (by simp [z]))).trans (hk b ob (fun z => hb (by simp [z])) (fun z => hb (by simp [z])) q)) hf (Nat.le_refl _) hN
    have e1 : ((i + 1 : Nat) : Int) = (i : Int) + 1 := by omega
    refine ⟨.ref s.heap.objs.size, _, I1, rfl, ⟨_, x, rfl, I.hok.fresh (Nat.le_refl _), rfl, fun ys hy => by rw [I.tuple_inj hy hq]; exact hx⟩, ⟨⟨y, by rw [e1]; exact he'⟩, st'.1.at fun o q => (sb.2 it (Ne.symm h1)).trans q⟩, fun b hb => ?_⟩
    have hb' : b ≠ s.heap.objs.size := by
      rcases List.mem_cons.mp hb with z | z
      · rw [z]; exact Nat.ne_of_lt hel
      · rw [List.mem_singleton.mp z]; exact Nat.ne_of_lt hil
    rw [upd_ne hb']
    exact (hf b hb).1
  done := by
    intro X hP hw hK hc i pins s σ H E I hf st hg
    subst hP hw hK
    obtain ⟨⟨old, he⟩, hit⟩ := st
    obtain ⟨xs, hq, hx⟩ := hg
    obtain ⟨its, rv, p, hz⟩ := I.tuple hq
    have p' : s.heap.IsTuple a its.toArray := p
    obtain ⟨f0, f1, f2, f3, f4, f5⟩ := hf it (by simp)
    have hn : i = its.toArray.size := by have := rv.length; simp; omega
    subst hn
    exact wpAny_pyNext_enum_endD (Draws.tuple (A := X.A.in1) (I.ok.hd hc) it a h3 its.toArray) he ⟨hit, p'⟩ fun h' eb => ⟨rfl, I.turned (t' := s.toks) (fun b o hb q => eb b o hb q) f0 f1 f3 f4 f5⟩
  self := fun A i s Q E st h => let ⟨⟨_, he⟩, _⟩ := st; wpAny_pyIter_enum he h
theorem walk_enumT {K : PySem.W.Frag} {a : Addr} {xs : List V} : Walk (Itet K a) xs.length (fun H => SqT K H a xs) (YPair (fun i => some (.int (i : Nat))) (fun i => xs[i]?)) :=
  ⟨fun i _ hi q => ⟨xs, xs[i], q, List.getElem?_eq_getElem hi⟩, fun _ q => ⟨xs, q, rfl⟩, fun i H v H' _ q y => by
    obtain ⟨T, x, k1, k2, k3, k4⟩ := y
    exact ⟨T, .int (i : Nat), x, k1, k2, k3, rfl, k4 xs q⟩⟩
def iEnumT (K : PySem.W.Frag) (ta : TA) : TI := fun σ H R => ta σ H fun vs H1 => ∃ a xs, vs = [.ref a] ∧ SqT K H1 a xs ∧ R (Itet K a) H1
theorem pi_enumT {X : Cx} {e : Expr} {ta : TA} {p pos tpos : Pos} {elts : List Expr} {kk : Nat} (hg : Gl X "enumerate") (hm : X.mg "enumerate" = none) (ha : PA X [e] ta) (hs : starEach [e] X.env = [(false, eval e X.env)] := by rfl) :
    PI X (.Tuple elts kk tpos) (.Call (.Name "enumerate" p) [e] [] pos) (iEnumT X.K ta) := by
  refine ⟨fun pins s σ H R I h => Call_ (ld_blt I hg hm boot_enumerate (PyProof.Rows.callWith_type1 (thn (ha.run pos pins s σ H _ I h) fun us s1 ⟨vs, H1, I1, r1, a, xs, ex, hq, q⟩ => ?_) hs rfl))⟩
  subst ex
  obtain ⟨u, rfl, r⟩ := r1.one
  cases r
  obtain ⟨its, rv, pt, hz⟩ := I1.tuple hq
  have pt' : s1.heap.IsTuple a its.toArray := pt
  have hal : a < s1.heap.objs.size := let ⟨_, e1, _⟩ := pt'; Heap.lt_size e1
  refine EW.callEnumT pt' fun h' he hit hk => wpAny_pyIter_enum he ?_
  have h1 : (s1.heap.objs.size + 1 : Nat) ≠ s1.heap.objs.size := Nat.succ_ne_self _
  refine ⟨s1.heap.objs.size + 1, [s1.heap.objs.size + 1, s1.heap.objs.size], _, _, H1, rfl, I1.kept (t' := s1.toks) hk, turn_enumT a (s1.heap.objs.size + 1) s1.heap.objs.size h1 (Nat.ne_of_gt (Nat.lt_succ_of_lt hal)) (Nat.ne_of_lt hal), ⟨⟨.none, he⟩, hit⟩, fun b hb => ?_, q⟩
  have hle : s1.heap.objs.size ≤ b := by
    rcases List.mem_cons.mp hb with z | z
    · rw [z]; exact Nat.le_succ _
    · rw [List.mem_singleton.mp z]; exact Nat.le_refl _
  exact I1.fpOk hle (I1.hok.fresh hle)
/-! ### len(set(t)), t a tuple of ints -/
def tLenSetT (K : PySem.W.Frag) (ta : TE) : TE := fun σ H Q => ta σ H fun x H1 => ∃ (l : Addr) (ns : List Int), x = V.ref l ∧ SqT K H1 l (ns.map V.int) ∧ ns.length < 64 ∧ ∀ ds : List Int, ds.Nodup → (∀ k, k ∈ ds ↔ k ∈ ns) → Q (.int ds.length) H1
theorem pe_lenSetT {X : Cx} {a : Expr} {ta : TE} {p p2 q pos : Pos} (hc : X.calm = true) (hg : Gl X "len") (hm : X.mg "len" = none) (hg2 : Gl X "set") (hm2 : X.mg "set" = none) (ha : PE X a ta)
    (na : starEach [a] X.env = (false, eval a X.env) :: starEach [] X.env := by rfl) : PE X (.Call (.Name "len" p) [.Call (.Name "set" p2) [a] [] q] [] pos) (tLenSetT X.K ta) := by
  refine ⟨fun pins s σ H Q I h => Call_ (ld_blt I hg hm PySem.boot_len (PyProof.Rows.callWith_builtin1 (PyProof.Rows.args_cons (Call_ (ld_blt I hg2 hm2 PyProof.Rows.boot_set
    (PyProof.Rows.callWith_type1 (PyProof.Rows.args_cons (thn (ha.run pins s σ H _ I h) fun v s1 ⟨x, H1, I1, r1, l, ns, ex, hq, hlt, q1⟩ => PyProof.Rows.args_nil ?_) na) na rfl))) rfl) rfl rfl))⟩
  subst ex
  cases r1
  obtain ⟨its, r, pl, hz⟩ := I1.tuple hq
  refine call_set_tupI ns (I1.ok.hd hc) (show s1.heap.IsTuple l its.toArray from pl) (by simpa using r.ints) (by unfold scanBound; omega) fun h' tk c hS hcl hk => PyProof.Rows.args_nil ?_
  obtain ⟨o, es, ep, t, ho, hex, hd, _, hnd, hmem, _, hf, hn, _⟩ := hS
  have I2 : Inv X pins σ H1 { s1 with heap := h', toks := tk } := I1.kept hk
  have hlen : (es.toList.map L2.keyOf).length = es.size := by rw [List.length_map, Array.length_toList]
  refine call_len_set ho hex hd hf (by rw [hn]; omega) ⟨.int (es.toList.map L2.keyOf).length, H1, I2.tok _, ⟨_, by rw [hlen]⟩, q1 _ hnd fun k => by rw [← hmem k, decide_eq_true_iff]⟩
/-! ### a dict comprehension that is given a name at once -/
section
variable {X : Cx}
theorem dcG_core {pins : List (Addr × Obj)} {s : Shared} {σ : L2.St} {H : Hp} {Q : VK} {o0 : HO} {kx vx tg iter : Expr} {ifs : List Expr} {scope : Scope} {own : List (Str × Nat)} {pos pos' : Pos} {wi : TI} {g : TG} {tt : TT} {tk tv : TE} {use : Option (Value → Sem Unit)} {Qf : Value → Shared → Prop} (n0 : NilD o0) (hu : X.A.units < cLine) (hc : X.calm = true) (hN : X.N.Nodup)
    (I : Inv X pins σ H s) (hi : PI X tg iter wi) (ok : BlkOk X.N X.env.scope scope own)
    (hg : ∀ (s : Shared) (H : Hp) (C : Addr) (cl : List (Str × Addr)) (fp : List Addr), PG (X.blk s H scope (compEnvC scope cl C X.env) fp) tg g) (ht : ∀ (s : Shared) (H : Hp) (C : Addr) (cl : List (Str × Addr)) (fp : List Addr), PTs (X.blk s H scope (compEnvC scope cl C X.env) fp) ifs tt)
    (hk : ∀ (s : Shared) (H : Hp) (C : Addr) (cl : List (Str × Addr)) (fp : List Addr), PE (X.blk s H scope (compEnvC scope cl C X.env) fp) kx tk)
    (hv : ∀ (s : Shared) (H : Hp) (C : Addr) (cl : List (Str × Addr)) (fp : List Addr), PE (X.blk s H scope (compEnvC scope cl C X.env) fp) vx tv) (hs : ∀ x, foldedSetIterable iter X.env x = pure x)
    (h : tDcG o0 wi g tt tk tv (own.map (·.2)) σ H Q)
    (hRR : ∀ D C s' m H', Inv X pins σ H' s' → Q (.ref D) H' → s'.heap.Ns C m → FpOk X pins H' C → compPost (model X.prog X.w) X.A X.xe use Qf (.ref D) C (.ok .next) s') :
    wpAny (model X.prog X.w) X.A (comprehension (.DictComp kx vx [⟨tg, iter, ifs, 0⟩] scope pos) scope X.env pos' newDict false (eval iter X.env) use) Qf X.xe s := by
  have cl : ∀ y ∈ scope.names, y.2 = .free → ∃ c, X.env.cells.lookup y.1 = some c := fun y hy e => (ok.free y hy e).elim (fun k => I.ok.has _ (.inl k)) (fun k => I.ok.has _ (.inr k))
  refine wpAny_comprehension_free (use := use) rfl hs (closure_ok cl) ok.kind (fun y hy e => by rw [ok.uniq y hy, e]) (thn (hi.run pins s σ H _ I h) fun xv s1 hx => thn hx fun itv s2 h2 => ?_)
  obtain ⟨it, fp, tn, J, H2, e, I2, T, st2, f2, q⟩ := h2
  subst e
  refine wpAny_newObj_type (newEnv_comp ?_)
  generalize hD : s2.heap.objs.size = D
  obtain ⟨W, ⟨m0, w0⟩, turn⟩ := q D (I2.hok.fresh (Nat.le_of_eq hD))
  -- the new dict
  have h3 : ∃ s3 : Shared, ({ s2 with heap := s2.heap.push { cls := .type "dict", data := .dict #[] } } : Shared) = s3 := ⟨_, rfl⟩
  obtain ⟨s3, hs3⟩ := h3
  have hh3 : s3.heap = s2.heap.push { cls := .type "dict", data := .dict #[] } := by rw [← hs3]
  have h4 : ∃ H3, upd H2 D o0 = H3 := ⟨_, rfl⟩
  obtain ⟨H3, hH3⟩ := h4
  have I3 : Inv X pins σ H3 s3 := by
    rw [← hs3, ← hH3]
    refine I2.laid (t' := s2.toks) (fun b o e => Heap.get?_push_of_some _ e) (Nat.le_of_eq hD) ?_
    rw [← hD]
    exact n0.ok s2.heap I2.big
  rw [hH3] at w0
  have lt2 : ∀ b ∈ fp, b < s2.heap.objs.size := fun b hb => let ⟨o, e, _⟩ := T.obj _ _ st2 b hb; Heap.lt_size e
  have f3 : ∀ b ∈ fp, FpOk X pins H3 b ∧ b < s3.heap.objs.size := fun b hb => by
    refine ⟨⟨?_, (f2 b hb).2⟩, by rw [hh3, Heap.size_push]; exact Nat.lt_succ_of_lt (lt2 b hb)⟩
    rw [← hH3, upd_ne (by rw [← hD]; exact Nat.ne_of_lt (lt2 b hb))]
    exact (f2 b hb).1
  have I4 := block_start I3 ok hN f3
  rw [hs3]
  show codeAny _ _ (.compStart (.DictComp kx vx [⟨tg, iter, ifs, 0⟩] scope pos) 0 (.ref it) (.ref D) (compEnvC scope (cellsFrom (s3.heap.objs.size + 1) scope.names (cloFrom X.env.cells scope.names [])) s3.heap.objs.size X.env)) (compPost (model X.prog X.w) X.A X.xe use Qf (.ref D) s3.heap.objs.size) { s3 with heap := pushCells (s3.heap.push { cls := .type "dict", data := .dict #[] }) scope.names }
  have pg := hg s3 H3 s3.heap.objs.size (cellsFrom (s3.heap.objs.size + 1) scope.names (cloFrom X.env.cells scope.names [])) fp
  have pt := ht s3 H3 s3.heap.objs.size (cellsFrom (s3.heap.objs.size + 1) scope.names (cloFrom X.env.cells scope.names [])) fp
  have pk := hk s3 H3 s3.heap.objs.size (cellsFrom (s3.heap.objs.size + 1) scope.names (cloFrom X.env.cells scope.names [])) fp
  have pv := hv s3 H3 s3.heap.objs.size (cellsFrom (s3.heap.objs.size + 1) scope.names (cloFrom X.env.cells scope.names [])) fp
  generalize hce : compEnvC scope (cellsFrom (s3.heap.objs.size + 1) scope.names (cloFrom X.env.cells scope.names [])) s3.heap.objs.size X.env = ce at I4 pg pt pk pv ⊢
  have cL : ce.locals = s3.heap.objs.size := by rw [← hce]; rfl
  have st4 : tn 0 (pushCells (s3.heap.push { cls := .type "dict", data := .dict #[] }) scope.names) := T.keep _ _ _ st2 fun b _ o e => pushCells_keeps _ _ _ _ (Heap.get?_push_of_some _ (by rw [hh3]; exact Heap.get?_push_of_some _ e))
  generalize hs4 : ({ s3 with heap := pushCells (s3.heap.push { cls := .type "dict", data := .dict #[] }) scope.names } : Shared) = s4 at I4 ⊢
  have st4' : tn 0 s4.heap := by rw [← hs4]; exact st4
  have stat : ∀ {σ' : L2.St} {H' : Hp} {s' : Shared}, Inv (X.blk s3 H3 scope ce fp) [] σ' H' s' → (∀ b ∈ fp, H' b = none) → ∀ b ∈ fp, FpOk (X.blk s3 H3 scope ce fp) [] H' b := fun I' hn b hb =>
    ⟨hn b hb, (I'.ok.exf b hb).1, I'.ok.exfs b hb, .inl hb, fun x c e => (I'.ok.exf b hb).2 x c e, fun p hp => by cases hp⟩
  have loop : codeAny (model X.prog X.w) X.A (.compLoop (.DictComp kx vx [⟨tg, iter, ifs, 0⟩] scope pos) 0 (.ref it) (.ref D) ce) (compPost (model X.prog X.w) X.A X.xe use Qf (.ref D) s3.heap.objs.size) s4 := by
    refine compLoop_anyD (fun n s' => ∃ i H', Inv (X.blk s3 H3 scope ce fp) [] (wipe σ (own.map (·.2))) H' s' ∧ tn i s'.heap ∧ (∀ b ∈ fp, H' b = none) ∧ W i n H') ?_ m0 ⟨0, H3, I4, st4', fun b hb => (f3 b hb).1.1, w0⟩
    rintro n s5 ⟨i, H5, I5, st5, n5, w5⟩
    rcases turn i n H5 w5 with ⟨stop, qq⟩ | ⟨go, Nx, hNx, step⟩
    · refine thnF (T.done (X.blk s3 H3 scope ce fp) rfl rfl rfl hc i [] s5 _ H5 (fun _ _ => False) I5 (stat I5 n5) st5 stop) fun r s6 ⟨hr, I6⟩ => ?_
      subst hr
      have I7 : Inv X pins σ H5 s6 := I3.call' (ch := fp) I6.os I6.base I6.hok I6.bare fun b hb => ⟨(f3 b hb).1.2.2.2.1, (f3 b hb).1.2.1, (f3 b hb).1.2.2.2.2.1, (f3 b hb).1.2.2.2.2.2⟩
      have nC : H5 s3.heap.objs.size = none := by rw [← cL]; exact I6.free
      obtain ⟨m, hn, _⟩ := I6.loc
      exact hRR D s3.heap.objs.size s6 m H5 I7 qq (by rw [← cL]; exact hn) (I3.fpOk (Nat.le_refl _) nC)
    · refine thnF (T.item (X.blk s3 H3 scope ce fp) rfl rfl rfl hc i [] s5 _ H5 (fun _ _ => False) I5 (stat I5 n5) st5 go) fun r s6 ⟨u, hr, h6⟩ => ?_
      subst hr
      refine thnF h6 fun _ s7 ⟨x, H7, I7, r7, y7, st7, n7⟩ => ?_
      refine thnF (pg.run _ s7 _ H7 x u _ (I7.pinned (stat I7 n7) (T.obj _ _ st7)) r7 (step x H7 y7)) fun _ s8 ⟨σ8, H8, I8, hw8, q8⟩ => ?_
      refine thnF (pt.run _ s8 σ8 H8 _ I8 q8) fun b s9 ⟨H9, I9, q9⟩ => ?_
      have fin : ∀ {s' : Shared} {H' : Hp}, Inv (X.blk s3 H3 scope ce fp) ([] ++ pinsAt fp s7.heap) σ8 H' s' → Nx H' → ∃ m, m < n ∧ ∃ i H', Inv (X.blk s3 H3 scope ce fp) [] (wipe σ (own.map (·.2))) H' s' ∧ tn i s'.heap ∧ (∀ b ∈ fp, H' b = none) ∧ W i m H' := fun {s' H'} I' nx => by
        obtain ⟨m', hm, w'⟩ := hNx H' nx
        have pin' : ∀ b ∈ fp, ∀ o, s7.heap.get? b = some o → s'.heap.get? b = some o ∧ H' b = none := fun b hb o e =>
          let z := I'.pin (b, o) (List.mem_append_right _ (List.mem_append_right _ (mem_pinsAt hb e)))
          ⟨z.1, z.2.1⟩
        refine ⟨m', hm, i + 1, H', (I'.unpinned (pins := [])).weak (by rw [← hw8, wipe_length]) (fun j v e => (wipe_some (by rw [hw8]; exact e)).1), T.keep _ _ _ st7 fun b hb o e => (pin' b hb o e).1, fun b hb => ?_, w'⟩
        obtain ⟨o, e, _⟩ := T.obj _ _ st7 b hb
        exact (pin' b hb o e).2
      cases b with
      | false => exact fin I9 q9
      | true =>
        refine thnF (pk.run _ s9 σ8 H9 _ I9 q9) fun z s10 ⟨yk, H10, I10, r10, q10⟩ => ?_
        refine thnF (pv.run _ s10 σ8 H10 _ I10 q10) fun z2 s11 ⟨yv, H11, I11, r11, H12, dp, nx⟩ => ?_
        exact put_by (X := X.blk s3 H3 scope ce fp) hu I11 dp r10 r11 fun s12 I12 => fin I12 nx
  exact codeAny_compStart_dict loop (T.self X.A 0 _ _ _ st4' loop)
theorem ps_setDcG {i : Nat} {y : Str} {py : Pos} {o0 : HO} {kx vx tg iter : Expr} {ifs : List Expr} {scope : Scope} {own : List (Str × Nat)} {pos spos : Pos} {wi : TI} {g : TG} {tt : TT} {tk tv : TE} (n0 : NilD o0) (hu : X.A.units < cLine) (hc : X.calm = true) (hN : X.N.Nodup) (hy : X.N[i]? = some y) (hyl : X.env.scope.names.lookup y = some .local)
    (hsw : swapsWith (.DictComp kx vx [⟨tg, iter, ifs, 0⟩] scope pos) (some (.Name y py)) spos.line X.env = pure true) (hi : PI X tg iter wi) (ok : BlkOk X.N X.env.scope scope own)
    (hg : ∀ (s : Shared) (H : Hp) (C : Addr) (cl : List (Str × Addr)) (fp : List Addr), PG (X.blk s H scope (compEnvC scope cl C X.env) fp) tg g) (ht : ∀ (s : Shared) (H : Hp) (C : Addr) (cl : List (Str × Addr)) (fp : List Addr), PTs (X.blk s H scope (compEnvC scope cl C X.env) fp) ifs tt)
    (hk : ∀ (s : Shared) (H : Hp) (C : Addr) (cl : List (Str × Addr)) (fp : List Addr), PE (X.blk s H scope (compEnvC scope cl C X.env) fp) kx tk)
    (hv : ∀ (s : Shared) (H : Hp) (C : Addr) (cl : List (Str × Addr)) (fp : List Addr), PE (X.blk s H scope (compEnvC scope cl C X.env) fp) vx tv) (hs : ∀ x, foldedSetIterable iter X.env x = pure x := by intro _; rfl) :
    PS X (.Assign [.Name y py] (.DictComp kx vx [⟨tg, iter, ifs, 0⟩] scope pos) spos) (tAsg (tDcG o0 wi g tt tk tv (own.map (·.2))) (gName i)) := by
  refine ⟨fun pins s σ H D I h => ?_⟩
  rw [exec_Assign_Name_used _ _ _ _ hsw]
  refine wpAny_bind (wpAny_standAt (wpAny_bind ?_))
  show wpAny _ X.A (do let _ ← comprehension (.DictComp kx vx [⟨tg, iter, ifs, 0⟩] scope pos) scope X.env (firstIterPos [⟨tg, iter, ifs, 0⟩] pos) newDict false (eval iter X.env) (some (assign (.Name y py) X.env))) _ _ s
  have hh : tDcG o0 wi g tt tk tv (own.map (·.2)) σ H (fun x H1 => gName i x σ H1 D.nx) := h
  refine wpAny_bind (thn (dcG_core (Qf := fun _ s' => SP X pins D .next s') n0 hu hc hN I hi ok hg ht hk hv hs hh fun L C s' m H' J' q hn f => ?_) fun _ s' hq => wpAny_pure (wpAny_pure hq))
  obtain ⟨f0, f1, f2, f3, f4, f5⟩ := f
  refine wpAny_assign_Name (store_ok2 (v := V.ref L) J' hN hy (.inl hyl) rfl (fun s2 I2 ⟨a, sb, ha⟩ => ⟨m, hn.sameBut sb (ha.elim (fun z => by rw [z]; exact f1) fun z e => f4 y a z e.symm), fun h3 sb3 => ?_⟩) (.inr hyl))
  exact ⟨_, H', I2.turned (t' := s2.toks) (fun b o hb e => (sb3.2 b hb).trans e) f0 f1 f3 f4 f5, q⟩
theorem swD_true {kx vx : Expr} {gs : List Comprehension} {scope : Scope} {pos py : Pos} {y : Str} {l : Nat} {env : Env} (hkind : env.scope.kind = .function) (hloc : env.scope.names.lookup y = some .local) (hline : (py.line == pos.line) = true)
    (hany : (scope.names.any fun (n, k) => n == y && (k == .local || k == .cell)) = false) : swapsWith (.DictComp kx vx gs scope pos) (some (.Name y py)) l env = pure true := by
  have e1 : env.kindOf y = some .local := hloc
  have e2 : env.blockKind = .function := by unfold Env.blockKind; rw [hkind]; rfl
  unfold swapsWith
  simp only [e2, e1, hany, Expr.pos, hline]
  rfl
end
/-! ### parts and sums of tuples, whatever they are -/
section
variable {K : PySem.W.Frag} {H : Hp} {a b : Addr} {xs ys : List V} {Q : VK}
theorem cut_from (xs : List V) (c : Nat) : cutV xs (some (c : Int)) none = xs.drop c := by
  unfold cutV
  rw [HT.sIx_none, HT.sIx_nat]
  by_cases h : c ≤ xs.length
  · rw [Nat.min_eq_left h, List.take_of_length_le (by rw [List.length_drop]; exact Nat.le_refl _)]
  · rw [Nat.min_eq_right (by omega), List.drop_length, List.drop_of_length_le (by omega), List.take_nil]
theorem cut_to (xs : List V) (c : Nat) : cutV xs none (some (c : Int)) = xs.take c := by
  unfold cutV
  rw [HT.sIx_none, HT.sIx_nat, List.drop_zero, Nat.sub_zero]
  by_cases h : c ≤ xs.length
  · rw [Nat.min_eq_left h]
  · rw [Nat.min_eq_right (by omega), List.take_length, List.take_of_length_le (by omega)]
theorem slA_from {c : Nat} (h : SqT K H a xs) (q : ∀ p H', Same H H' → SqT K H' p (xs.drop c) → Q (.ref p) H') : rSlA K (.ref a) (some (c : Int)) none H Q := by
  refine ⟨a, xs, rfl, h, fun w => q a H (.refl _) ?_, fun _ p np => q p _ (same_upd np) (SqT.of (by rw [upd_same, cut_from]))⟩
  have w := w.1
  rw [HT.sIx_nat] at w
  by_cases e : c = 0
  · rw [e, List.drop_zero]; exact h
  · have e2 : xs = [] := List.eq_nil_of_length_eq_zero (by omega)
    subst e2
    rw [List.drop_nil]
    exact h
theorem slA_to {c : Nat} (h : SqT K H a xs) (q : ∀ p H', Same H H' → SqT K H' p (xs.take c) → Q (.ref p) H') : rSlA K (.ref a) none (some (c : Int)) H Q := by
  refine ⟨a, xs, rfl, h, fun w => q a H (.refl _) ?_, fun _ p np => q p _ (same_upd np) (SqT.of (by rw [upd_same, cut_to]))⟩
  have w := w.2
  rw [HT.sIx_nat] at w
  rw [List.take_of_length_le (by omega)]
  exact h
theorem catA_of (ha : SqT K H a xs) (hb : SqT K H b ys) (hl : xs.length + ys.length ≤ sizeLine) (q : ∀ p H', Same H H' → SqT K H' p (xs ++ ys) → Q (.ref p) H') : rCatA K (.ref a) (.ref b) H Q :=
  ⟨a, b, xs, ys, rfl, rfl, ha, hb, hl, fun e => q b H (.refl _) (by rw [e]; exact hb), fun _ e => q a H (.refl _) (by rw [e, List.append_nil]; exact ha), fun _ _ p np => q p _ (same_upd np) (SqT.of upd_same)⟩
end
end EL
namespace K23
open PySem PySem.Spec PyProof.Rows L2 He TL EL
def topS (i : Nat) : Stmt := PySem.Challenge.pw_endlessasks_k23_shapes_of_values.main.body.getD i (.Pass ⟨0, 0, 0, 0⟩)
abbrev s_NoPoint___init__ : Stmt := (inClass (topS 5) 0)
def xw_NoPoint : EL.DefX := ⟨"NoPoint", "number", s_NoPoint___init__, false⟩
theorem xwok_NoPoint : EL.XW xw_NoPoint := ⟨⟨fun _ _ _ _ _ _ _ _ _ _ _ => rfl, ⟨_, rfl, rfl⟩, rfl, rfl, rfl, rfl, rfl, by decide +kernel, rfl, rfl, by decide +kernel, by decide +kernel⟩, ⟨_, _, _, _, _, _, _, _, _, _, rfl, by decide, ⟨_, _, _, rfl⟩⟩⟩
abbrev s__wall : Stmt := (topS 0)
abbrev s_is_whole : Stmt := (topS 10)
abbrev s_common_divisor : Stmt := (topS 11)
abbrev s_value : Stmt := (topS 12)
abbrev s_is_value : Stmt := (topS 13)
abbrev s_less : Stmt := (topS 14)
abbrev s_ascending : Stmt := (topS 15)
abbrev s_finish_order : Stmt := (topS 17)
abbrev s_parts_of : Stmt := (topS 18)
abbrev s_between : Stmt := (topS 19)
abbrev s_Web___init__ : Stmt := (inClass (topS 20) 0)
abbrev s_Web_point : Stmt := (inClass (topS 20) 2)
abbrev s_Web_fixed : Stmt := (inClass (topS 20) 3)
abbrev s_Web_look : Stmt := (inClass (topS 20) 4)
abbrev s_Web_demand : Stmt := (inClass (topS 20) 5)
abbrev s_Web_edges : Stmt := (inClass (topS 20) 8)
abbrev s_Web_parts : Stmt := (inClass (topS 20) 9)
abbrev s_Web_solution : Stmt := (inClass (topS 20) 11)
abbrev s_shape_of : Stmt := (topS 22)
abbrev s_is_shape : Stmt := (topS 23)
abbrev s_picked : Stmt := (topS 24)
abbrev s_values_of : Stmt := (topS 25)
abbrev s__law_pool : Stmt := (topS 27)
abbrev s__law_take : Stmt := (topS 28)
abbrev s__law_lowest : Stmt := (topS 29)
abbrev s__law_number : Stmt := (topS 30)
abbrev s__law_less : Stmt := (topS 31)
abbrev s__law_unlike : Stmt := (topS 32)
abbrev s__law_ranks : Stmt := (topS 33)
abbrev s__law_is_shape : Stmt := (topS 34)
abbrev s__law_refused : Stmt := (topS 35)
abbrev s__law_valued : Stmt := (topS 36)
abbrev s_law : Stmt := (topS 37)
theorem sc__wall : FnScope ["k"] ["k"] (defScope s__wall) := ⟨rfl, rfl, rfl, by decide +kernel, rfl, by decide +kernel, by decide +kernel⟩
theorem sc_is_whole : FnScope ["thing"] ["thing"] (defScope s_is_whole) := ⟨rfl, rfl, rfl, by decide +kernel, rfl, by decide +kernel, by decide +kernel⟩
theorem sc_common_divisor : FnScope ["one", "other"] ["one", "other"] (defScope s_common_divisor) := ⟨rfl, rfl, rfl, by decide +kernel, rfl, by decide +kernel, by decide +kernel⟩
theorem sc_value : FnScope ["top", "bottom", "divisor"] ["top", "bottom"] (defScope s_value) := ⟨rfl, rfl, rfl, by decide +kernel, rfl, by decide +kernel, by decide +kernel⟩
theorem sc_is_value : FnScope ["thing"] ["thing"] (defScope s_is_value) := ⟨rfl, rfl, rfl, by decide +kernel, rfl, by decide +kernel, by decide +kernel⟩
theorem sc_less : FnScope ["one", "other"] ["one", "other"] (defScope s_less) := ⟨rfl, rfl, rfl, by decide +kernel, rfl, by decide +kernel, by decide +kernel⟩
theorem sc_ascending : FnScope ["values", "ordered", "item", "low", "high", "middle"] ["values"] (defScope s_ascending) := ⟨rfl, rfl, rfl, by decide +kernel, rfl, by decide +kernel, by decide +kernel⟩
theorem sc_finish_order : FnScope ["after", "entered", "node", "order", "start", "trail", "at", "other"] ["after"] (defScope s_finish_order) := ⟨rfl, rfl, rfl, by decide +kernel, rfl, by decide +kernel, by decide +kernel⟩
theorem sc_parts_of : FnScope ["after", "before", "part", "node", "count", "order", "start", "waiting", "other"] ["after", "before"] (defScope s_parts_of) := ⟨rfl, rfl, rfl, by decide +kernel, rfl, by decide +kernel, by decide +kernel⟩
theorem sc_between : FnScope ["low", "high", "many", "k", "top", "gap", "bottom"] ["low", "high", "many"] (defScope s_between) := ⟨rfl, rfl, rfl, by decide +kernel, rfl, by decide +kernel, by decide +kernel⟩
theorem sc_Web___init__ : FnScope ["self", "worths", "wants", "known", "worth"] ["self", "worths", "wants", "known"] (defScope s_Web___init__) := ⟨rfl, rfl, rfl, by decide +kernel, rfl, by decide +kernel, by decide +kernel⟩
theorem sc_Web_point : FnScope ["self"] ["self"] (defScope s_Web_point) := ⟨rfl, rfl, rfl, by decide +kernel, rfl, by decide +kernel, by decide +kernel⟩
theorem sc_Web_fixed : FnScope ["self", "worth"] ["self", "worth"] (defScope s_Web_fixed) := ⟨rfl, rfl, rfl, by decide +kernel, rfl, by decide +kernel, by decide +kernel⟩
theorem sc_Web_look : FnScope ["self", "sign", "one", "other", "number"] ["self", "sign", "one", "other"] (defScope s_Web_look) := ⟨rfl, rfl, rfl, by decide +kernel, rfl, by decide +kernel, by decide +kernel⟩
theorem sc_Web_demand : FnScope ["self", "sign", "one", "other"] ["self", "sign", "one", "other"] (defScope s_Web_demand) := ⟨rfl, rfl, rfl, by decide +kernel, rfl, by decide +kernel, by decide +kernel⟩
theorem sc_Web_edges : FnScope ["self", "pairs", "sign", "one", "other", "row", "worth"] ["self"] (defScope s_Web_edges) := ⟨rfl, rfl, rfl, by decide +kernel, rfl, by decide +kernel, by decide +kernel⟩
theorem sc_Web_parts : FnScope ["self", "after", "worth", "before", "one", "other", "part", "sign", "taken", "number"] ["self"] (defScope s_Web_parts) := ⟨rfl, rfl, rfl, by decide +kernel, rfl, by decide +kernel, by decide +kernel⟩
theorem sc_Web_solution : FnScope ["self", "part", "many", "number", "worths", "k", "worth", "low", "start", "at", "high"] ["self"] (defScope s_Web_solution) := ⟨rfl, rfl, rfl, by decide +kernel, rfl, by decide +kernel, by decide +kernel⟩
theorem sc_shape_of : FnScope ["values", "constants", "everything", "unlike", "one"] ["values", "constants"] (defScope s_shape_of) := ⟨rfl, rfl, rfl, by decide +kernel, rfl, by decide +kernel, by decide +kernel⟩
theorem sc_is_shape : FnScope ["thing", "constants", "rank", "present", "at"] ["thing", "constants"] (defScope s_is_shape) := ⟨rfl, rfl, rfl, by decide +kernel, rfl, by decide +kernel, by decide +kernel⟩
theorem sc_picked : FnScope ["shape", "places", "ranks", "at", "present", "rank", "numbers"] ["shape", "places"] (defScope s_picked) := ⟨rfl, rfl, rfl, by decide +kernel, rfl, by decide +kernel, by decide +kernel⟩
theorem sc_values_of : FnScope ["shape", "constants", "web", "points", "at", "rank", "solution"] ["shape", "constants"] (defScope s_values_of) := ⟨rfl, rfl, rfl, by decide +kernel, rfl, by decide +kernel, by decide +kernel⟩
theorem sc__law_pool : FnScope ["_law_script", "_law_k", "_law_cell", "_law_number_here", "_law_mixed"] ["_law_script", "_law_k"] (defScope s__law_pool) := ⟨rfl, rfl, rfl, by decide +kernel, rfl, by decide +kernel, by decide +kernel⟩
theorem sc__law_take : FnScope ["_law_pool_here", "_law_many", "_law_digit"] ["_law_pool_here", "_law_many"] (defScope s__law_take) := ⟨rfl, rfl, rfl, by decide +kernel, rfl, by decide +kernel, by decide +kernel⟩
theorem sc__law_lowest : FnScope ["_law_top", "_law_bottom", "_law_one", "_law_other"] ["_law_top", "_law_bottom"] (defScope s__law_lowest) := ⟨rfl, rfl, rfl, by decide +kernel, rfl, by decide +kernel, by decide +kernel⟩
theorem sc__law_number : FnScope ["_law_pool_here", "_law_way", "_law_top"] ["_law_pool_here"] (defScope s__law_number) := ⟨rfl, rfl, rfl, by decide +kernel, rfl, by decide +kernel, by decide +kernel⟩
theorem sc__law_less : FnScope ["_law_one", "_law_other"] ["_law_one", "_law_other"] (defScope s__law_less) := ⟨rfl, rfl, rfl, by decide +kernel, rfl, by decide +kernel, by decide +kernel⟩
theorem sc__law_unlike : FnScope ["_law_values", "_law_found", "_law_one", "_law_at"] ["_law_values"] (defScope s__law_unlike) := ⟨rfl, rfl, rfl, by decide +kernel, rfl, by decide +kernel, by decide +kernel⟩
theorem sc__law_ranks : FnScope ["_law_values", "_law_unlike_here", "_law_one"] ["_law_values"] (defScope s__law_ranks) := ⟨rfl, rfl, rfl, by decide +kernel, rfl, by decide +kernel, by decide +kernel⟩
theorem sc__law_is_shape : FnScope ["_law_ranks_here", "_law_many", "_law_rank", "_law_at"] ["_law_ranks_here", "_law_many"] (defScope s__law_is_shape) := ⟨rfl, rfl, rfl, by decide +kernel, rfl, by decide +kernel, by decide +kernel⟩
theorem sc__law_refused : FnScope ["_law_shape", "_law_constants", "e"] ["_law_shape", "_law_constants"] (defScope s__law_refused) := ⟨rfl, rfl, rfl, by decide +kernel, rfl, by decide +kernel, by decide +kernel⟩
theorem sc__law_valued : FnScope ["_law_shape", "_law_constants", "_law_found", "_law_one"] ["_law_shape", "_law_constants"] (defScope s__law_valued) := ⟨rfl, rfl, rfl, by decide +kernel, rfl, by decide +kernel, by decide +kernel⟩
theorem sc_law : FnScope ["_law_script", "_law_k", "_law_pool_here", "_law_constants", "_law_turn", "_law_values", "_law_due", "_law_handed", "_law_shape", "_law_rank", "_law_places", "_law_everything", "_law_at", "_law_bent", "_law_many", "_law_good"] ["_law_script"] (defScope s_law) := ⟨rfl, rfl, rfl, by decide +kernel, rfl, by decide +kernel, by decide +kernel⟩
structure Txt (K : PySem.W.Frag) (mg : Str → Option Value) : Prop where
  g__wall : mg "_wall" = some (.ref (ga K "_wall"))
  g_is_whole : mg "is_whole" = some (.ref (ga K "is_whole"))
  g_common_divisor : mg "common_divisor" = some (.ref (ga K "common_divisor"))
  g_value : mg "value" = some (.ref (ga K "value"))
  g_is_value : mg "is_value" = some (.ref (ga K "is_value"))
  g_less : mg "less" = some (.ref (ga K "less"))
  g_ascending : mg "ascending" = some (.ref (ga K "ascending"))
  g_finish_order : mg "finish_order" = some (.ref (ga K "finish_order"))
  g_parts_of : mg "parts_of" = some (.ref (ga K "parts_of"))
  g_between : mg "between" = some (.ref (ga K "between"))
  g_shape_of : mg "shape_of" = some (.ref (ga K "shape_of"))
  g_is_shape : mg "is_shape" = some (.ref (ga K "is_shape"))
  g_picked : mg "picked" = some (.ref (ga K "picked"))
  g_values_of : mg "values_of" = some (.ref (ga K "values_of"))
  g__law_pool : mg "_law_pool" = some (.ref (ga K "_law_pool"))
  g__law_take : mg "_law_take" = some (.ref (ga K "_law_take"))
  g__law_lowest : mg "_law_lowest" = some (.ref (ga K "_law_lowest"))
  g__law_number : mg "_law_number" = some (.ref (ga K "_law_number"))
  g__law_less : mg "_law_less" = some (.ref (ga K "_law_less"))
  g__law_unlike : mg "_law_unlike" = some (.ref (ga K "_law_unlike"))
  g__law_ranks : mg "_law_ranks" = some (.ref (ga K "_law_ranks"))
  g__law_is_shape : mg "_law_is_shape" = some (.ref (ga K "_law_is_shape"))
  g__law_refused : mg "_law_refused" = some (.ref (ga K "_law_refused"))
  g__law_valued : mg "_law_valued" = some (.ref (ga K "_law_valued"))
  g_law : mg "law" = some (.ref (ga K "law"))
  g_NoPoint : mg "NoPoint" = some (.ref (ga K "NoPoint"))
  g_Web : mg "Web" = some (.ref (ga K "Web"))
  x_AskError : XC K mg "AskError"
  x_NoValue : XC K mg "NoValue"
  x_NoCondition : XC K mg "NoCondition"
  x_NotMet : XC K mg "NotMet"
  x_NoShape : XC K mg "NoShape"
  g_SIGNS : mg "SIGNS" = some (.ref (ga K "SIGNS"))
  z_ValueError : mg "ValueError" = none
  z_super : mg "super" = none
  z_isinstance : mg "isinstance" = none
  z_int : mg "int" = none
  z_bool : mg "bool" = none
  z_abs : mg "abs" = none
  z_tuple : mg "tuple" = none
  z_len : mg "len" = none
  z_range : mg "range" = none
  z_list : mg "list" = none
  z_str : mg "str" = none
  z_zip : mg "zip" = none
  z_all : mg "all" = none
  z_enumerate : mg "enumerate" = none
  z_sorted : mg "sorted" = none
  z_set : mg "set" = none
  z_max : mg "max" = none
  z_min : mg "min" = none
  e_NoShape_AskError : PySem.W.exmOne K (.ref (ga K "NoShape")) (.ref (ga K "AskError")) = some true
  m_Web : Mk K (ga K "Web") (ma K (ga K "Web") "__init__")
  h_Web_point : Meth K (ga K "Web") "point" (ma K (ga K "Web") "point")
  h_Web_fixed : Meth K (ga K "Web") "fixed" (ma K (ga K "Web") "fixed")
  h_Web_look : Meth K (ga K "Web") "look" (ma K (ga K "Web") "look")
  h_Web_demand : Meth K (ga K "Web") "demand" (ma K (ga K "Web") "demand")
  h_Web_edges : Meth K (ga K "Web") "edges" (ma K (ga K "Web") "edges")
  h_Web_parts : Meth K (ga K "Web") "parts" (ma K (ga K "Web") "parts")
  h_Web_solution : Meth K (ga K "Web") "solution" (ma K (ga K "Web") "solution")
  n_Web_worths : NoAttr K (ga K "Web") "worths"
  n_Web_wants : NoAttr K (ga K "Web") "wants"
  n_Web_known : NoAttr K (ga K "Web") "known"
  f__wall : ∃ fd, FunD K "_wall" "_wall" (defArgs s__wall) (defBody s__wall) (defScope s__wall) ([] : List V) [] (ga K "_wall") fd
  f_is_whole : ∃ fd, FunD K "is_whole" "is_whole" (defArgs s_is_whole) (defBody s_is_whole) (defScope s_is_whole) ([] : List V) [] (ga K "is_whole") fd
  f_common_divisor : ∃ fd, FunD K "common_divisor" "common_divisor" (defArgs s_common_divisor) (defBody s_common_divisor) (defScope s_common_divisor) ([] : List V) [] (ga K "common_divisor") fd
  f_value : ∃ fd, FunD K "value" "value" (defArgs s_value) (defBody s_value) (defScope s_value) ([.int 1] : List V) [] (ga K "value") fd
  f_is_value : ∃ fd, FunD K "is_value" "is_value" (defArgs s_is_value) (defBody s_is_value) (defScope s_is_value) ([] : List V) [] (ga K "is_value") fd
  f_less : ∃ fd, FunD K "less" "less" (defArgs s_less) (defBody s_less) (defScope s_less) ([] : List V) [] (ga K "less") fd
  f_ascending : ∃ fd, FunD K "ascending" "ascending" (defArgs s_ascending) (defBody s_ascending) (defScope s_ascending) ([] : List V) [] (ga K "ascending") fd
  f_finish_order : ∃ fd, FunD K "finish_order" "finish_order" (defArgs s_finish_order) (defBody s_finish_order) (defScope s_finish_order) ([] : List V) [] (ga K "finish_order") fd
  f_parts_of : ∃ fd, FunD K "parts_of" "parts_of" (defArgs s_parts_of) (defBody s_parts_of) (defScope s_parts_of) ([] : List V) [] (ga K "parts_of") fd
  f_between : ∃ fd, FunD K "between" "between" (defArgs s_between) (defBody s_between) (defScope s_between) ([] : List V) [] (ga K "between") fd
  f_Web___init__ : ∃ fd, FunD K "__init__" "Web.__init__" (defArgs s_Web___init__) (defBody s_Web___init__) (defScope s_Web___init__) ([.ref (dflAt ("Web", some "__init__") 0 K), .ref (dflAt ("Web", some "__init__") 1 K), .non] : List V) [] (ma K (ga K "Web") "__init__") fd
  f_Web_point : ∃ fd, FunD K "point" "Web.point" (defArgs s_Web_point) (defBody s_Web_point) (defScope s_Web_point) ([] : List V) [] (ma K (ga K "Web") "point") fd
  f_Web_fixed : ∃ fd, FunD K "fixed" "Web.fixed" (defArgs s_Web_fixed) (defBody s_Web_fixed) (defScope s_Web_fixed) ([] : List V) [] (ma K (ga K "Web") "fixed") fd
  f_Web_look : ∃ fd, FunD K "look" "Web.look" (defArgs s_Web_look) (defBody s_Web_look) (defScope s_Web_look) ([] : List V) [] (ma K (ga K "Web") "look") fd
  f_Web_demand : ∃ fd, FunD K "demand" "Web.demand" (defArgs s_Web_demand) (defBody s_Web_demand) (defScope s_Web_demand) ([] : List V) [] (ma K (ga K "Web") "demand") fd
  f_Web_edges : ∃ fd, FunD K "edges" "Web.edges" (defArgs s_Web_edges) (defBody s_Web_edges) (defScope s_Web_edges) ([] : List V) [] (ma K (ga K "Web") "edges") fd
  f_Web_parts : ∃ fd, FunD K "parts" "Web.parts" (defArgs s_Web_parts) (defBody s_Web_parts) (defScope s_Web_parts) ([] : List V) [] (ma K (ga K "Web") "parts") fd
  f_Web_solution : ∃ fd, FunD K "solution" "Web.solution" (defArgs s_Web_solution) (defBody s_Web_solution) (defScope s_Web_solution) ([] : List V) [] (ma K (ga K "Web") "solution") fd
  f_shape_of : ∃ fd, FunD K "shape_of" "shape_of" (defArgs s_shape_of) (defBody s_shape_of) (defScope s_shape_of) ([] : List V) [] (ga K "shape_of") fd
  f_is_shape : ∃ fd, FunD K "is_shape" "is_shape" (defArgs s_is_shape) (defBody s_is_shape) (defScope s_is_shape) ([] : List V) [] (ga K "is_shape") fd
  f_picked : ∃ fd, FunD K "picked" "picked" (defArgs s_picked) (defBody s_picked) (defScope s_picked) ([] : List V) [] (ga K "picked") fd
  f_values_of : ∃ fd, FunD K "values_of" "values_of" (defArgs s_values_of) (defBody s_values_of) (defScope s_values_of) ([] : List V) [] (ga K "values_of") fd
  f__law_pool : ∃ fd, FunD K "_law_pool" "_law_pool" (defArgs s__law_pool) (defBody s__law_pool) (defScope s__law_pool) ([] : List V) [] (ga K "_law_pool") fd
  f__law_take : ∃ fd, FunD K "_law_take" "_law_take" (defArgs s__law_take) (defBody s__law_take) (defScope s__law_take) ([] : List V) [] (ga K "_law_take") fd
  f__law_lowest : ∃ fd, FunD K "_law_lowest" "_law_lowest" (defArgs s__law_lowest) (defBody s__law_lowest) (defScope s__law_lowest) ([] : List V) [] (ga K "_law_lowest") fd
  f__law_number : ∃ fd, FunD K "_law_number" "_law_number" (defArgs s__law_number) (defBody s__law_number) (defScope s__law_number) ([] : List V) [] (ga K "_law_number") fd
  f__law_less : ∃ fd, FunD K "_law_less" "_law_less" (defArgs s__law_less) (defBody s__law_less) (defScope s__law_less) ([] : List V) [] (ga K "_law_less") fd
  f__law_unlike : ∃ fd, FunD K "_law_unlike" "_law_unlike" (defArgs s__law_unlike) (defBody s__law_unlike) (defScope s__law_unlike) ([] : List V) [] (ga K "_law_unlike") fd
  f__law_ranks : ∃ fd, FunD K "_law_ranks" "_law_ranks" (defArgs s__law_ranks) (defBody s__law_ranks) (defScope s__law_ranks) ([] : List V) [] (ga K "_law_ranks") fd
  f__law_is_shape : ∃ fd, FunD K "_law_is_shape" "_law_is_shape" (defArgs s__law_is_shape) (defBody s__law_is_shape) (defScope s__law_is_shape) ([] : List V) [] (ga K "_law_is_shape") fd
  f__law_refused : ∃ fd, FunD K "_law_refused" "_law_refused" (defArgs s__law_refused) (defBody s__law_refused) (defScope s__law_refused) ([] : List V) [] (ga K "_law_refused") fd
  f__law_valued : ∃ fd, FunD K "_law_valued" "_law_valued" (defArgs s__law_valued) (defBody s__law_valued) (defScope s__law_valued) ([] : List V) [] (ga K "_law_valued") fd
  f_law : ∃ fd, FunD K "law" "law" (defArgs s_law) (defBody s_law) (defScope s_law) ([] : List V) [] (ga K "law") fd
  dw0 : ∀ H : Hp, SqT K H (dflAt ("Web", some "__init__") 0 K) []
  dw1 : ∀ H : Hp, SqT K H (dflAt ("Web", some "__init__") 1 K) []
  c_NoShape : ExcC K (ga K "NoShape")
  k_NoShape_NoShape : PySem.W.kitOne K (.ref (ga K "NoShape")) (.ref (ga K "NoShape")) = some true
  k_NoShape_ValueError : PySem.W.kitOne K (.ref (ga K "NoShape")) (.type "ValueError") = some true
  k_NoShape_NoValue : PySem.W.kitOne K (.ref (ga K "NoShape")) (.ref (ga K "NoValue")) = some false
  o_Web : OC K (ga K "Web")
  t_SIGNS : ∀ H : Hp, SqT K H (ga K "SIGNS") [.str "<", .str "<=", .str "=", .str "!="]
  y_NoPoint : XT K mg "NoPoint" "number" "/claim/cut.py" ∧ XfC K (ga K "NoPoint") ∧ PySem.W.findIn K (.ref (ga K "NoPoint")) "number" = some none
end K23
namespace K23
open PySem PySem.Spec PyProof.Rows L2 He TL EL
def dd__wall : EL.DefE := ⟨fun K => (ga K "_wall"), "_wall", "_wall", defArgs s__wall, defBody s__wall, defScope s__wall, [], []⟩
def dd_is_whole : EL.DefE := ⟨fun K => (ga K "is_whole"), "is_whole", "is_whole", defArgs s_is_whole, defBody s_is_whole, defScope s_is_whole, [], []⟩
def dd_common_divisor : EL.DefE := ⟨fun K => (ga K "common_divisor"), "common_divisor", "common_divisor", defArgs s_common_divisor, defBody s_common_divisor, defScope s_common_divisor, [], []⟩
def dd_value : EL.DefE := ⟨fun K => (ga K "value"), "value", "value", defArgs s_value, defBody s_value, defScope s_value, [.int 1], []⟩
def dd_is_value : EL.DefE := ⟨fun K => (ga K "is_value"), "is_value", "is_value", defArgs s_is_value, defBody s_is_value, defScope s_is_value, [], []⟩
def dd_less : EL.DefE := ⟨fun K => (ga K "less"), "less", "less", defArgs s_less, defBody s_less, defScope s_less, [], []⟩
def dd_ascending : EL.DefE := ⟨fun K => (ga K "ascending"), "ascending", "ascending", defArgs s_ascending, defBody s_ascending, defScope s_ascending, [], []⟩
def dd_finish_order : EL.DefE := ⟨fun K => (ga K "finish_order"), "finish_order", "finish_order", defArgs s_finish_order, defBody s_finish_order, defScope s_finish_order, [], []⟩
def dd_parts_of : EL.DefE := ⟨fun K => (ga K "parts_of"), "parts_of", "parts_of", defArgs s_parts_of, defBody s_parts_of, defScope s_parts_of, [], []⟩
def dd_between : EL.DefE := ⟨fun K => (ga K "between"), "between", "between", defArgs s_between, defBody s_between, defScope s_between, [], []⟩
def dd_Web___init__ : EL.DefE := ⟨fun K => (ma K (ga K "Web") "__init__"), "__init__", "Web.__init__", defArgs s_Web___init__, defBody s_Web___init__, defScope s_Web___init__, [.adr (dflAt ("Web", some "__init__") 0), .adr (dflAt ("Web", some "__init__") 1), .non], []⟩
def dd_Web_point : EL.DefE := ⟨fun K => (ma K (ga K "Web") "point"), "point", "Web.point", defArgs s_Web_point, defBody s_Web_point, defScope s_Web_point, [], []⟩
def dd_Web_fixed : EL.DefE := ⟨fun K => (ma K (ga K "Web") "fixed"), "fixed", "Web.fixed", defArgs s_Web_fixed, defBody s_Web_fixed, defScope s_Web_fixed, [], []⟩
def dd_Web_look : EL.DefE := ⟨fun K => (ma K (ga K "Web") "look"), "look", "Web.look", defArgs s_Web_look, defBody s_Web_look, defScope s_Web_look, [], []⟩
def dd_Web_demand : EL.DefE := ⟨fun K => (ma K (ga K "Web") "demand"), "demand", "Web.demand", defArgs s_Web_demand, defBody s_Web_demand, defScope s_Web_demand, [], []⟩
def dd_Web_edges : EL.DefE := ⟨fun K => (ma K (ga K "Web") "edges"), "edges", "Web.edges", defArgs s_Web_edges, defBody s_Web_edges, defScope s_Web_edges, [], []⟩
def dd_Web_parts : EL.DefE := ⟨fun K => (ma K (ga K "Web") "parts"), "parts", "Web.parts", defArgs s_Web_parts, defBody s_Web_parts, defScope s_Web_parts, [], []⟩
def dd_Web_solution : EL.DefE := ⟨fun K => (ma K (ga K "Web") "solution"), "solution", "Web.solution", defArgs s_Web_solution, defBody s_Web_solution, defScope s_Web_solution, [], []⟩
def dd_shape_of : EL.DefE := ⟨fun K => (ga K "shape_of"), "shape_of", "shape_of", defArgs s_shape_of, defBody s_shape_of, defScope s_shape_of, [], []⟩
def dd_is_shape : EL.DefE := ⟨fun K => (ga K "is_shape"), "is_shape", "is_shape", defArgs s_is_shape, defBody s_is_shape, defScope s_is_shape, [], []⟩
def dd_picked : EL.DefE := ⟨fun K => (ga K "picked"), "picked", "picked", defArgs s_picked, defBody s_picked, defScope s_picked, [], []⟩
def dd_values_of : EL.DefE := ⟨fun K => (ga K "values_of"), "values_of", "values_of", defArgs s_values_of, defBody s_values_of, defScope s_values_of, [], []⟩
def dd__law_pool : EL.DefE := ⟨fun K => (ga K "_law_pool"), "_law_pool", "_law_pool", defArgs s__law_pool, defBody s__law_pool, defScope s__law_pool, [], []⟩
def dd__law_take : EL.DefE := ⟨fun K => (ga K "_law_take"), "_law_take", "_law_take", defArgs s__law_take, defBody s__law_take, defScope s__law_take, [], []⟩
def dd__law_lowest : EL.DefE := ⟨fun K => (ga K "_law_lowest"), "_law_lowest", "_law_lowest", defArgs s__law_lowest, defBody s__law_lowest, defScope s__law_lowest, [], []⟩
def dd__law_number : EL.DefE := ⟨fun K => (ga K "_law_number"), "_law_number", "_law_number", defArgs s__law_number, defBody s__law_number, defScope s__law_number, [], []⟩
def dd__law_less : EL.DefE := ⟨fun K => (ga K "_law_less"), "_law_less", "_law_less", defArgs s__law_less, defBody s__law_less, defScope s__law_less, [], []⟩
def dd__law_unlike : EL.DefE := ⟨fun K => (ga K "_law_unlike"), "_law_unlike", "_law_unlike", defArgs s__law_unlike, defBody s__law_unlike, defScope s__law_unlike, [], []⟩
def dd__law_ranks : EL.DefE := ⟨fun K => (ga K "_law_ranks"), "_law_ranks", "_law_ranks", defArgs s__law_ranks, defBody s__law_ranks, defScope s__law_ranks, [], []⟩
def dd__law_is_shape : EL.DefE := ⟨fun K => (ga K "_law_is_shape"), "_law_is_shape", "_law_is_shape", defArgs s__law_is_shape, defBody s__law_is_shape, defScope s__law_is_shape, [], []⟩
def dd__law_refused : EL.DefE := ⟨fun K => (ga K "_law_refused"), "_law_refused", "_law_refused", defArgs s__law_refused, defBody s__law_refused, defScope s__law_refused, [], []⟩
def dd__law_valued : EL.DefE := ⟨fun K => (ga K "_law_valued"), "_law_valued", "_law_valued", defArgs s__law_valued, defBody s__law_valued, defScope s__law_valued, [], []⟩
def dd_law : EL.DefE := ⟨fun K => (ga K "law"), "law", "law", defArgs s_law, defBody s_law, defScope s_law, [], []⟩
def fn : List EL.DefE := [dd__wall, dd_is_whole, dd_common_divisor, dd_value, dd_is_value, dd_less, dd_ascending, dd_finish_order, dd_parts_of, dd_between, dd_Web___init__, dd_Web_point, dd_Web_fixed, dd_Web_look, dd_Web_demand, dd_Web_edges, dd_Web_parts, dd_Web_solution, dd_shape_of, dd_is_shape, dd_picked, dd_values_of, dd__law_pool, dd__law_take, dd__law_lowest, dd__law_number, dd__law_less, dd__law_unlike, dd__law_ranks, dd__law_is_shape, dd__law_refused, dd__law_valued, dd_law]
def fa : List He.Fa := [.glo "_wall", .glo "is_whole", .glo "common_divisor", .glo "value", .glo "is_value", .glo "less", .glo "ascending", .glo "finish_order", .glo "parts_of", .glo "between", .glo "shape_of", .glo "is_shape", .glo "picked", .glo "values_of", .glo "_law_pool", .glo "_law_take", .glo "_law_lowest", .glo "_law_number", .glo "_law_less", .glo "_law_unlike", .glo "_law_ranks", .glo "_law_is_shape", .glo "_law_refused", .glo "_law_valued", .glo "law", .glo "NoPoint", .glo "Web", .glo "AskError", .exc "AskError", .glo "NoValue", .exc "NoValue", .glo "NoCondition", .exc "NoCondition", .glo "NotMet", .exc "NotMet", .glo "NoShape", .exc "NoShape", .glo "SIGNS", .free "ValueError", .free "super", .free "isinstance", .free "int", .free "bool", .free "abs", .free "tuple", .free "len", .free "range", .free "list", .free "str", .free "zip", .free "all", .free "enumerate", .free "sorted", .free "set", .free "max", .free "min", .exm "NoShape" "AskError" true, .mkr "Web", .meth "Web" "point", .meth "Web" "fixed", .meth "Web" "look", .meth "Web" "demand", .meth "Web" "edges", .meth "Web" "parts", .meth "Web" "solution", .noat "Web" "worths", .noat "Web" "wants", .noat "Web" "known"]
def xn : List EL.DefX := [xw_NoPoint]
def exL (K : PySem.W.Frag) : List Bool := [tupAB K (dflAt ("Web", some "__init__") 0 K), tupAB K (dflAt ("Web", some "__init__") 1 K), excCB K (ga K "NoShape"), decide (PySem.W.kitOne K (.ref (ga K "NoShape")) (.ref (ga K "NoShape")) = some true), decide (PySem.W.kitOne K (.ref (ga K "NoShape")) (.type "ValueError") = some true), decide (PySem.W.kitOne K (.ref (ga K "NoShape")) (.ref (ga K "NoValue")) = some false), ocB K (ga K "Web"), tupB K "SIGNS" [.str "<", .str "<=", .str "=", .str "!="], xtB K "NoPoint" "number" "/claim/cut.py"]
def ex (K : PySem.W.Frag) : Bool := (exL K).all id
theorem txt_of {K : PySem.W.Frag} {h : Heap} {mg : Str → Option Value} (X : K.In h) (G : h.Ns mainGlobals mg) (cx : EL.SaysX fa fn xn ex K) : Txt K mg := by
  have c := cx.e
  have m := c.ex_
  exact ⟨He.glo_ok X G (c.fact 0 (by rfl)),
    He.glo_ok X G (c.fact 1 (by rfl)),
    He.glo_ok X G (c.fact 2 (by rfl)),
    He.glo_ok X G (c.fact 3 (by rfl)),
    He.glo_ok X G (c.fact 4 (by rfl)),
    He.glo_ok X G (c.fact 5 (by rfl)),
    He.glo_ok X G (c.fact 6 (by rfl)),
    He.glo_ok X G (c.fact 7 (by rfl)),
    He.glo_ok X G (c.fact 8 (by rfl)),
    He.glo_ok X G (c.fact 9 (by rfl)),
    He.glo_ok X G (c.fact 10 (by rfl)),
    He.glo_ok X G (c.fact 11 (by rfl)),
    He.glo_ok X G (c.fact 12 (by rfl)),
    He.glo_ok X G (c.fact 13 (by rfl)),
    He.glo_ok X G (c.fact 14 (by rfl)),
    He.glo_ok X G (c.fact 15 (by rfl)),
    He.glo_ok X G (c.fact 16 (by rfl)),
    He.glo_ok X G (c.fact 17 (by rfl)),
    He.glo_ok X G (c.fact 18 (by rfl)),
    He.glo_ok X G (c.fact 19 (by rfl)),
    He.glo_ok X G (c.fact 20 (by rfl)),
    He.glo_ok X G (c.fact 21 (by rfl)),
    He.glo_ok X G (c.fact 22 (by rfl)),
    He.glo_ok X G (c.fact 23 (by rfl)),
    He.glo_ok X G (c.fact 24 (by rfl)),
    He.glo_ok X G (c.fact 25 (by rfl)),
    He.glo_ok X G (c.fact 26 (by rfl)),
    xc_of (He.glo_ok X G (c.fact 27 (by rfl))) (He.exc_ok (c.fact 28 (by rfl))),
    xc_of (He.glo_ok X G (c.fact 29 (by rfl))) (He.exc_ok (c.fact 30 (by rfl))),
    xc_of (He.glo_ok X G (c.fact 31 (by rfl))) (He.exc_ok (c.fact 32 (by rfl))),
    xc_of (He.glo_ok X G (c.fact 33 (by rfl))) (He.exc_ok (c.fact 34 (by rfl))),
    xc_of (He.glo_ok X G (c.fact 35 (by rfl))) (He.exc_ok (c.fact 36 (by rfl))),
    He.glo_ok X G (c.fact 37 (by rfl)),
    He.free_ok X G (c.fact 38 (by rfl)),
    He.free_ok X G (c.fact 39 (by rfl)),
    He.free_ok X G (c.fact 40 (by rfl)),
    He.free_ok X G (c.fact 41 (by rfl)),
    He.free_ok X G (c.fact 42 (by rfl)),
    He.free_ok X G (c.fact 43 (by rfl)),
    He.free_ok X G (c.fact 44 (by rfl)),
    He.free_ok X G (c.fact 45 (by rfl)),
    He.free_ok X G (c.fact 46 (by rfl)),
    He.free_ok X G (c.fact 47 (by rfl)),
    He.free_ok X G (c.fact 48 (by rfl)),
    He.free_ok X G (c.fact 49 (by rfl)),
    He.free_ok X G (c.fact 50 (by rfl)),
    He.free_ok X G (c.fact 51 (by rfl)),
    He.free_ok X G (c.fact 52 (by rfl)),
    He.free_ok X G (c.fact 53 (by rfl)),
    He.free_ok X G (c.fact 54 (by rfl)),
    He.free_ok X G (c.fact 55 (by rfl)),
    He.exm_ok (c.fact 56 (by rfl)),
    He.mkr_ok (c.fact 57 (by rfl)),
    He.meth_ok (c.fact 58 (by rfl)),
    He.meth_ok (c.fact 59 (by rfl)),
    He.meth_ok (c.fact 60 (by rfl)),
    He.meth_ok (c.fact 61 (by rfl)),
    He.meth_ok (c.fact 62 (by rfl)),
    He.meth_ok (c.fact 63 (by rfl)),
    He.meth_ok (c.fact 64 (by rfl)),
    He.noat_ok (c.fact 65 (by rfl)),
    He.noat_ok (c.fact 66 (by rfl)),
    He.noat_ok (c.fact 67 (by rfl)),
    c.def_ 0 (d := dd__wall) rfl,
    c.def_ 1 (d := dd_is_whole) rfl,
    c.def_ 2 (d := dd_common_divisor) rfl,
    c.def_ 3 (d := dd_value) rfl,
    c.def_ 4 (d := dd_is_value) rfl,
    c.def_ 5 (d := dd_less) rfl,
    c.def_ 6 (d := dd_ascending) rfl,
    c.def_ 7 (d := dd_finish_order) rfl,
    c.def_ 8 (d := dd_parts_of) rfl,
    c.def_ 9 (d := dd_between) rfl,
    c.def_ 10 (d := dd_Web___init__) rfl,
    c.def_ 11 (d := dd_Web_point) rfl,
    c.def_ 12 (d := dd_Web_fixed) rfl,
    c.def_ 13 (d := dd_Web_look) rfl,
    c.def_ 14 (d := dd_Web_demand) rfl,
    c.def_ 15 (d := dd_Web_edges) rfl,
    c.def_ 16 (d := dd_Web_parts) rfl,
    c.def_ 17 (d := dd_Web_solution) rfl,
    c.def_ 18 (d := dd_shape_of) rfl,
    c.def_ 19 (d := dd_is_shape) rfl,
    c.def_ 20 (d := dd_picked) rfl,
    c.def_ 21 (d := dd_values_of) rfl,
    c.def_ 22 (d := dd__law_pool) rfl,
    c.def_ 23 (d := dd__law_take) rfl,
    c.def_ 24 (d := dd__law_lowest) rfl,
    c.def_ 25 (d := dd__law_number) rfl,
    c.def_ 26 (d := dd__law_less) rfl,
    c.def_ 27 (d := dd__law_unlike) rfl,
    c.def_ 28 (d := dd__law_ranks) rfl,
    c.def_ 29 (d := dd__law_is_shape) rfl,
    c.def_ 30 (d := dd__law_refused) rfl,
    c.def_ 31 (d := dd__law_valued) rfl,
    c.def_ 32 (d := dd_law) rfl,
    fun H => tupAB_ok (exG m 0 (by rfl)) H,
    fun H => tupAB_ok (exG m 1 (by rfl)) H,
    excCB_ok (exG m 2 (by rfl)),
    of_decide_eq_true (exG m 3 (by rfl)),
    of_decide_eq_true (exG m 4 (by rfl)),
    of_decide_eq_true (exG m 5 (by rfl)),
    ocB_ok (exG m 6 (by rfl)),
    fun H => tupB_ok (exG m 7 (by rfl)) H,
    xt_of xwok_NoPoint (cx.xd 0 (by rfl)) (He.glo_ok X G (c.fact 25 (by rfl))) (He.free_ok X G (c.fact 39 (by rfl))) (exG m 8 (by rfl))⟩
def loose : List Str := [("_wall" : Str), ("AskError" : Str), ("NoValue" : Str), ("NoCondition" : Str), ("NoPoint" : Str), ("NotMet" : Str), ("NoShape" : Str), ("SIGNS" : Str), ("is_whole" : Str), ("common_divisor" : Str), ("value" : Str), ("is_value" : Str), ("less" : Str), ("ascending" : Str), ("finish_order" : Str), ("parts_of" : Str), ("between" : Str), ("Web" : Str), ("shape_of" : Str), ("is_shape" : Str), ("picked" : Str), ("values_of" : Str), ("_law_pool" : Str), ("_law_take" : Str), ("_law_lowest" : Str), ("_law_number" : Str), ("_law_less" : Str), ("_law_unlike" : Str), ("_law_ranks" : Str), ("_law_is_shape" : Str), ("_law_refused" : Str), ("_law_valued" : Str)]
abbrev R : PySem.W.OpenRow := PySem.W.OpenLaw.row PySem.Challenge.rw_endlessasks_k23_shapes_of_values
abbrev hk : PySem.W.Hook := hookX 6 fa fn xn ex
def ob (s : PySem.W.SharedT) : AlX := obsXG 6 fa fn xn ex (HandSHeadRun.getT s)
theorem ob_eq (s : PySem.W.SharedT) : ob s = hk.obs s.abs := obsXG_eq (HandSHeadRun.getT_eq s)
theorem run_f (w : World) : HandSHeadRun.RunEq R (PySem.W.view R.prog [37]) hk ob 8000 loose (w.withFollow "special-get-raises" false) := by
  intro os; kernel_rfl
theorem run_t (w : World) : HandSHeadRun.RunEq R (PySem.W.view R.prog [37]) hk ob 8000 loose (w.withFollow "special-get-raises" true) := by
  intro os; kernel_rfl
theorem run (w : World) : HandSHeadRun.RunEq R (PySem.W.view R.prog [37]) hk ob 8000 loose w :=
  PySem.W.byRow2 "special-get-raises" (P := fun w => HandSHeadRun.RunEq R (PySem.W.view R.prog [37]) hk ob 8000 loose w) run_f run_t w
end K23
namespace K23
open PySem PySem.Spec PyProof.Rows L2 He TL EL
section
variable {P : Program} {w : World} {K : PySem.W.Frag} {mg : Str → Option Value} {base : Heap}
/-! is_whole -/
def spIsWhole (K : PySem.W.Frag) : Sp := fun vs H Q _ => ∃ v th, vs = [v] ∧ ThOk K H v th ∧ Q (.bl (isWholeT th)) H
theorem d_is_whole (T : Txt K mg) : Dn P w K mg base CX0 1 "is_whole" (spIsWhole K) := by
  obtain ⟨fd, F⟩ := T.f_is_whole
  refine dnN T.g_is_whole F (fun _ _ _ _ _ _ us hl => match us, hl with | [_], _ => rfl) sc_is_whole (fun vs H Q E h => ?_) (fun cdv A outer s H vs Q E hr h => ?_)
  · obtain ⟨v, th, rfl, _⟩ := h
    rfl
  · obtain ⟨v, th, rfl, ht, q⟩ := h
    obtain ⟨t, ty, ki⟩ := ht.ty
    refine ⟨_, PSs.nox (pss_one (ps_ret (pe_and (pe_callB call_isi (by rfl) T.z_isinstance (by decide +kernel) (pa_cons (pv 0) (pa_cons (pe_bltn (v := .ty "int") (by rfl) T.z_int (by decide +kernel) rfl) pa_nil))) (pe_one (pe_not (pe_callB call_isi (by rfl) T.z_isinstance (by decide +kernel) (pa_cons (pv 0) (pa_cons (pe_bltn (v := .ty "bool") (by rfl) T.z_bool (by decide +kernel) rfl) pa_nil)))))))), ?_⟩
    refine ⟨_, rfl, _, _, t, _, _, rfl, .ty _, ty, ki .int, _, rfl, ie (fun h1 => ?_) (fun h1 => ?_)⟩
    · refine ⟨_, rfl, _, _, t, _, _, rfl, .ty _, ty, ki .bl, _, rfl, ?_⟩
      have e : isWholeT th = !th.is .bl := by unfold isWholeT; rw [h1]; rfl
      rw [e] at q
      exact q
    · have e : isWholeT th = false := by unfold isWholeT; rw [h1]; rfl
      rw [e] at q
      exact q
/-! common_divisor -/
def spCD : Sp := fun vs H Q _ => ∃ a b : Int, vs = [.int a, .int b] ∧ Q (.int (cd a b)) H
theorem d_common_divisor (T : Txt K mg) : Dn P w K mg base CX0 1 "common_divisor" spCD := by
  obtain ⟨fd, F⟩ := T.f_common_divisor
  refine dnN T.g_common_divisor F (fun _ _ _ _ _ _ us hl => match us, hl with | [_, _], _ => rfl) sc_common_divisor (fun vs H Q E h => ?_) (fun cdv A outer s H vs Q E hr h => ?_)
  · obtain ⟨a, b, rfl, _⟩ := h
    rfl
  · obtain ⟨a, b, rfl, q⟩ := h
    refine ⟨_, PSs.nox (pss_cons (ps_par (i := 0) (j := 1) (by rfl) sc_common_divisor.nd rfl rfl (by decide) rfl rfl (pa_cons (pe_callB call_abs (by rfl) T.z_abs (by decide +kernel) (pa_cons (pv 0) pa_nil)) (pa_cons (pe_callB call_abs (by rfl) T.z_abs (by decide +kernel) (pa_cons (pv 1) pa_nil)) pa_nil)) (by rfl))
      (pss_cons (ps_while PassesOwn.never (pt_cmpR op_gt (pv 1) pe_int (nomark _))
      (pss_one (ps_par (i := 0) (j := 1) (by rfl) sc_common_divisor.nd rfl rfl (by decide) rfl rfl (pa_cons (pv 1) (pa_cons (pe_op op_mod (pv 0) (pv 1)) pa_nil)) (by rfl))))
      (pss_one (ps_ret (pv 0))))), ?_⟩
    refine ⟨_, rfl, _, rfl, _, rfl, _, rfl, _, _, rfl, ?_⟩
    refine ⟨fun m σ H' => ∃ x y : Nat, m = y ∧ σ = [some (.int x), some (.int y)] ∧ H' = H ∧ Nat.gcd x y = Nat.gcd a.natAbs b.natAbs, ⟨b.natAbs, a.natAbs, b.natAbs, rfl, ?_, rfl, rfl⟩, ?_⟩
    · have e : ∀ z : Int, (if z < 0 then -z else z) = (z.natAbs : Int) := fun z => by split <;> omega
      show [some (V.int _), some (V.int _)] = _
      rw [e, e]
    · rintro m σ H' ⟨x, y, em, rfl, rfl, hg⟩
      subst m
      refine ⟨_, rfl, _, _, rfl, rfl, _, rfl, ie (fun h1 => ?_) (fun h1 => ?_)⟩
      · have hy : 0 < y := by
          have := of_decide_eq_true h1
          omega
        refine ⟨_, fun σ' H2 hN => hN, _, rfl, _, rfl, _, rfl, _, _, rfl, rfl, (by show (0 : Int) < (y : Int); omega), _, _, rfl, ?_⟩
        exact ⟨x % y, Nat.mod_lt _ hy, y, x % y, rfl, rfl, rfl, by rw [← hg, Nat.gcd_comm x y, Nat.gcd_rec y x, Nat.gcd_comm]⟩
      · have hy : y = 0 := by
          have := of_decide_eq_false h1
          omega
        refine ⟨_, rfl, ?_⟩
        subst hy
        rw [Nat.gcd_zero_right] at hg
        unfold cd at q
        rw [← hg] at q
        exact q
/-! is_value -/
def spIsValue (K : PySem.W.Frag) : Sp := fun vs H Q _ => ∃ v th, vs = [v] ∧ ThOk K H v th ∧ Q (.bl (isValT th)) H
theorem d_is_value (T : Txt K mg) : Dn P w K mg base CX0 2 "is_value" (spIsValue K) := by
  obtain ⟨fd, F⟩ := T.f_is_value
  have D_is_whole := d_is_whole (P := P) (w := w) (base := base) T
  have D_common_divisor := d_common_divisor (P := P) (w := w) (base := base) T
  refine dnN T.g_is_value F (fun _ _ _ _ _ _ us hl => match us, hl with | [_], _ => rfl) sc_is_value (fun vs H Q E h => ?_) (fun cdv A outer s H vs Q E hr h => ?_)
  · obtain ⟨v, th, rfl, _⟩ := h
    rfl
  · obtain ⟨v, th, rfl, ht, q⟩ := h
    obtain ⟨t, ty, ki⟩ := ht.ty
    refine ⟨_, PSs.nox (pss_cons (ps_if (PW.pt (pw_or (pt_not (pt_val (pe_callB call_isi (by rfl) T.z_isinstance (by decide +kernel) (pa_cons (pv 0) (pa_cons (pe_bltn (v := .ty "tuple") (by rfl) T.z_tuple (by decide +kernel) rfl) pa_nil))))) (pw_or1 (pt_cmpR op_ne (pe_callB call_len_seq (by rfl) T.z_len (by decide +kernel) (pa_cons (pv 0) pa_nil)) pe_int (nomark _))))) (pss_one (ps_ret pe_bl)) pss_nil)
      (pss_cons (ps_if (PW.pt (pw_or (pt_not (pt_val (cl D_is_whole (hr.mono (by decide)) (pa_cons (pe_ix ix_tup (pv 0) pe_int (fun _ _ => rfl)) pa_nil)))) (pw_or (pt_not (pt_val (cl D_is_whole (hr.mono (by decide)) (pa_cons (pe_ix ix_tup (pv 0) pe_int (fun _ _ => rfl)) pa_nil)))) (pw_or1 (pt_cmpR op_lt (pe_ix ix_tup (pv 0) pe_int (fun _ _ => rfl)) pe_int (nomark _)))))) (pss_one (ps_ret pe_bl)) pss_nil)
      (pss_one (ps_ret (pe_cmpR op_eq (cl D_common_divisor (hr.mono (by decide)) (pa_cons (pe_ix ix_tup (pv 0) pe_int (fun _ _ => rfl)) (pa_cons (pe_ix ix_tup (pv 0) pe_int (fun _ _ => rfl)) pa_nil))) pe_int (nomark _)))))), ?_⟩
    refine ⟨_, rfl, _, _, t, _, _, rfl, .ty _, ty, ki .tup, _, rfl, ?_⟩
    by_cases hn : ∃ ds, th = .d (.tuple ds)
    · obtain ⟨ds, rfl⟩ := hn
      refine iteF ?_
      cases ht with
      | @tup a xs _ hS hA =>
      refine ⟨_, rfl, _, _, rfl, .inr hS, rfl, _, rfl, ?_⟩
      by_cases hl : xs.length = 2
      · match xs, hl with
        | [v0, v1], _ =>
        match ds, hA with
        | [d0, d1], .cons h0 (.cons h1 .nil) =>
        refine iteF ?_
        -- is_whole(thing[0])
        refine ⟨_, rfl, _, _, 0, v0, rfl, rfl, hS, atI_nat (j := 0) rfl, v0, .d d0, rfl, h0, _, rfl, ?_⟩
        rw [isWholeT_d]
        by_cases w0 : ∃ a, d0 = .int a
        · obtain ⟨a0, rfl⟩ := w0
          refine iteF ?_
          refine ⟨_, rfl, _, _, 1, v1, rfl, rfl, hS, atI_nat (j := 1) rfl, v1, .d d1, rfl, h1, _, rfl, ?_⟩
          rw [isWholeT_d]
          by_cases w1 : ∃ b, d1 = .int b
          · obtain ⟨b0, rfl⟩ := w1
            refine iteF ?_
            cases h0
            cases h1
            refine ⟨_, rfl, _, _, 1, _, rfl, rfl, hS, atI_nat (j := 1) rfl, _, _, rfl, rfl, _, rfl, ie (fun c => ?_) (fun c => ?_)⟩
            · have e : isValT (.d (.tuple [.int a0, .int b0])) = false := by
                show (!decide (b0 < 1) && decide (cd a0 b0 = 1)) = false
                rw [c]
                rfl
              rw [e] at q
              exact q
            · have e : isValT (.d (.tuple [.int a0, .int b0])) = decide (V.int (cd a0 b0) = V.int 1) := by
                show (!decide (b0 < 1) && decide (cd a0 b0 = 1)) = decide (V.int (cd a0 b0) = V.int 1)
                rw [c]
                simp
              rw [e] at q
              exact ⟨_, rfl, _, _, 0, _, rfl, rfl, hS, atI_nat (j := 0) rfl, _, rfl, _, _, 1, _, rfl, rfl, hS, atI_nat (j := 1) rfl, _, _, rfl, rfl, q⟩
          · have e2 : isWholeD d1 = false := by
              cases d1 <;> first | rfl | exact absurd ⟨_, rfl⟩ w1
            rw [e2]
            have e : isValT (.d (.tuple [.int a0, d1])) = false := by
              cases d1 <;> first | rfl | exact absurd ⟨_, rfl⟩ w1
            rw [e] at q
            exact q
        · have e2 : isWholeD d0 = false := by
            cases d0 <;> first | rfl | exact absurd ⟨_, rfl⟩ w0
          rw [e2]
          have e : isValT (.d (.tuple [d0, d1])) = false := by
            cases d0 <;> first | rfl | exact absurd ⟨_, rfl⟩ w0
          rw [e] at q
          exact q
      · have e2 : decide (V.int (xs.length : Int) = V.int 2) = false := decide_eq_false fun z => hl (by injection z; omega)
        rw [e2]
        have hdl : ds.length ≠ 2 := by
          rw [← DpAll.length hA]
          exact hl
        have e : isValT (.d (.tuple ds)) = false := by
          match ds, hdl with
          | [], _ => rfl
          | [_], _ => simp [isValT, isValD]
          | [_, _], h => exact absurd rfl h
          | _ :: _ :: _ :: _, _ => simp [isValT, isValD]
        rw [e] at q
        exact q
    · have e1 : th.is .tup = false := by
        cases th with
        | o => rfl
        | d d => cases d <;> first | rfl | exact absurd ⟨_, rfl⟩ hn
      rw [e1]
      have e : isValT th = false := by
        cases th with
        | o => rfl
        | d d => cases d <;> first | rfl | exact absurd ⟨_, rfl⟩ hn
      rw [e] at q
      exact q
/-! less -/
def spLess (K : PySem.W.Frag) : Sp := fun vs H Q _ => ∃ (p q : Addr) (a b c d : Int), vs = [.ref p, .ref q] ∧ SqT K H p [.int a, .int b] ∧ SqT K H q [.int c, .int d] ∧ CMulW a d ∧ CMulW c b ∧ Q (.bl (decide (a * d < c * b))) H
theorem d_less (T : Txt K mg) : Dn P w K mg base CX0 1 "less" (spLess K) := by
  obtain ⟨fd, F⟩ := T.f_less
  refine dnN T.g_less F (fun _ _ _ _ _ _ us hl => match us, hl with | [_, _], _ => rfl) sc_less (fun vs H Q E h => ?_) (fun cdv A outer s H vs Q E hr h => ?_)
  · obtain ⟨p, q, a, b, c, d, rfl, _⟩ := h
    rfl
  · obtain ⟨p, q, a, b, c, d, rfl, h1, h2, m1, m2, hq⟩ := h
    refine ⟨_, PSs.nox (pss_one (ps_ret (pe_cmpR op_lt (pe_op op_mulW (pe_ix ix_tup (pv 0) pe_int (fun _ _ => rfl)) (pe_ix ix_tup (pv 1) pe_int (fun _ _ => rfl))) (pe_op op_mulW (pe_ix ix_tup (pv 1) pe_int (fun _ _ => rfl)) (pe_ix ix_tup (pv 0) pe_int (fun _ _ => rfl))) (nomark _)))), ?_⟩
    exact ⟨_, rfl, _, _, 0, _, rfl, rfl, h1, atI_nat (j := 0) rfl, _, rfl, _, _, 1, _, rfl, rfl, h2, atI_nat (j := 1) rfl, _, _, rfl, rfl, m1,
      _, rfl, _, _, 0, _, rfl, rfl, h2, atI_nat (j := 0) rfl, _, rfl, _, _, 1, _, rfl, rfl, h1, atI_nat (j := 1) rfl, _, _, rfl, rfl, m2, _, _, rfl, rfl, hq⟩

end
/-! a web -/
abbrev aWeb (K : PySem.W.Frag) : Addr := ga K "Web"
def webF (lw lt kd : Addr) : List (Str × V) := putF "known" (.ref kd) (putF "wants" (.ref lt) (putF "worths" (.ref lw) []))
theorem webF_worths {a b c : Addr} : (webF a b c).lookup ("worths" : Str) = some (.ref a) := by
  unfold webF
  rw [lookup_putF, if_neg (by decide +kernel), lookup_putF, if_neg (by decide +kernel), lookup_putF, if_pos rfl]
theorem webF_wants {a b c : Addr} : (webF a b c).lookup ("wants" : Str) = some (.ref b) := by
  unfold webF
  rw [lookup_putF, if_neg (by decide +kernel), lookup_putF, if_pos rfl]
theorem webF_known {a b c : Addr} : (webF a b c).lookup ("known" : Str) = some (.ref c) := by
  unfold webF
  rw [lookup_putF, if_pos rfl]
theorem webF_no {a b c : Addr} {m : Str} (h1 : m ≠ "known") (h2 : m ≠ "wants") (h3 : m ≠ "worths") : (webF a b c).lookup m = none := by
  unfold webF
  rw [lookup_putF, if_neg h1, lookup_putF, if_neg h2, lookup_putF, if_neg h3]
  rfl
/-- the place of a value among the points -/
def idx (ws : List PyData) (a b : Int) : Option Nat := ws.findIdx? fun d => PyData.eqv d (.tuple [.int a, .int b])
def tk (a b : Int) : List Key := [.inl a, .inl b]
structure Kn (ws : List PyData) (kn : List (List Key × V)) : Prop where
  val : ∀ a b, valV kn (tk a b) = (idx ws a b).map fun i => V.int (i : Nat)
  nd : (kn.map (·.1)).Nodup
  len : kn.length ≤ ws.length
  ky : ∀ p ∈ kn, ∃ a b, p.1 = tk a b
theorem eqv_val (a b x y : Int) : PyData.eqv (.tuple [.int a, .int b]) (.tuple [.int x, .int y]) = decide (tk x y = tk a b) := by
  have e : PyData.eqv (.tuple [.int a, .int b]) (.tuple [.int x, .int y]) = ((a == x) && ((b == y) && true)) := rfl
  rw [e, Bool.and_true]
  unfold tk
  by_cases h1 : a = x
  · by_cases h2 : b = y
    · subst h1 h2; simp
    · rw [decide_eq_false (by intro z; injection z with z1 z2; injection z2 with z2 _; injection z2 with z2; exact h2 z2.symm), beq_eq_false_iff_ne.mpr h2, Bool.and_false]
  · rw [decide_eq_false (by intro z; injection z with z1 z2; injection z1 with z1; exact h1 z1.symm), beq_eq_false_iff_ne.mpr h1, Bool.false_and]
theorem valV_none {κ : Type} [DecidableEq κ] {k : κ} : ∀ {kn : List (κ × V)}, valV kn k = none → k ∉ kn.map (·.1)
  | [], _ => by simp
  | p :: r, h => by
    by_cases e : p.1 = k
    · rw [valV_pos e] at h; cases h
    · rw [valV_neg e] at h
      intro z
      rcases List.mem_cons.mp z with z | z
      · exact e z.symm
      · exact valV_none h z
theorem valV_miss {κ : Type} [DecidableEq κ] {k : κ} : ∀ {kn : List (κ × V)}, k ∉ kn.map (·.1) → valV kn k = none
  | [], _ => rfl
  | p :: r, h => by
    rw [valV_neg (fun e => h (by rw [← e]; simp))]
    exact valV_miss fun z => h (List.mem_cons_of_mem _ z)
theorem valV_at {κ : Type} [DecidableEq κ] {k : κ} {v : V} : ∀ {kn : List (κ × V)} {i : Nat}, (kn.map (·.1)).Nodup → kn[i]? = some (k, v) → valV kn k = some v
  | p :: r, 0, _, h => by
    have e : p = (k, v) := by simpa using h
    rw [e]
    exact valV_pos rfl
  | p :: r, i + 1, nd, h => by
    have h' : r[i]? = some (k, v) := by simpa using h
    have nd' := List.nodup_cons.mp nd
    rw [valV_neg (fun e => nd'.1 (by show p.1 ∈ _; rw [e]; exact List.mem_map.mpr ⟨_, List.mem_of_getElem? h', rfl⟩))]
    exact valV_at nd'.2 h'
theorem putK_take {κ : Type} [DecidableEq κ] {k : κ} {v : V} {kn : List (κ × V)} {i : Nat} (nd : (kn.map (·.1)).Nodup) (h : kn[i]? = some (k, v)) : putK (kn.take i) k v = kn.take (i + 1) := by
  have e : kn.take (i + 1) = kn.take i ++ [(k, v)] := by
    rw [List.take_add_one, h]
    rfl
  rw [e]
  refine putK_new v (valV_miss fun z => ?_)
  have hn : ((kn.take (i + 1)).map (·.1)).Nodup := by
    rw [List.map_take]
    exact nd.sublist (List.take_sublist _ _)
  rw [e, List.map_append] at hn
  exact (List.nodup_append.mp hn).2.2 k z k (by simp) rfl
theorem idx_snoc {ws : List PyData} {d : PyData} {a b : Int} : idx (ws ++ [d]) a b = (match idx ws a b with | some i => some i | none => if PyData.eqv d (.tuple [.int a, .int b]) = true then some ws.length else none) := by
  unfold idx
  rw [List.findIdx?_append]
  cases h : ws.findIdx? fun d => PyData.eqv d (.tuple [.int a, .int b]) with
  | some i => rfl
  | none =>
    simp only [List.findIdx?_cons, List.findIdx?_nil]
    cases PyData.eqv d (.tuple [.int a, .int b]) <;> simp
theorem Kn.nil : Kn [] [] := ⟨fun _ _ => rfl, by simp, Nat.le_refl _, by simp⟩
theorem Kn.none {ws : List PyData} {kn : List (List Key × V)} (k : Kn ws kn) : Kn (ws ++ [.none]) kn := by
  refine ⟨fun a b => ?_, k.nd, by rw [List.length_append]; have := k.len; omega, k.ky⟩
  rw [k.val, idx_snoc]
  cases idx ws a b <;> rfl
theorem Kn.put {ws : List PyData} {kn : List (List Key × V)} (k : Kn ws kn) {a b : Int} (h : idx ws a b = Option.none) : Kn (ws ++ [.tuple [.int a, .int b]]) (putK kn (tk a b) (.int (ws.length : Nat))) := by
  have hv : valV kn (tk a b) = Option.none := by rw [k.val, h]; rfl
  refine ⟨fun x y => ?_, ?_, ?_, ?_⟩
  · rw [valV_put, idx_snoc, eqv_val]
    by_cases e : tk x y = tk a b
    · rw [if_pos e, decide_eq_true e, if_pos rfl]
      have e2 : idx ws x y = Option.none := by
        have := k.val x y
        rw [e, hv] at this
        cases hh : idx ws x y with
        | none => rfl
        | some i => rw [hh] at this; cases this
      rw [e2]
      rfl
    · rw [if_neg e, k.val, decide_eq_false e, if_neg Bool.false_ne_true]
      cases idx ws x y <;> rfl
  · rw [putK_new _ hv, List.map_append]
    refine List.nodup_append.mpr ⟨k.nd, by simp, fun x hx y hy => ?_⟩
    rw [List.map_singleton, List.mem_singleton] at hy
    subst hy
    exact fun e => valV_none hv (by have e' : x = tk a b := e; rw [← e']; exact hx)
  · rw [putK_new _ hv, List.length_append, List.length_append]
    have := k.len
    simp only [List.length_singleton]
    omega
  · rw [putK_new _ hv]
    intro p hp
    rcases List.mem_append.mp hp with hp | hp
    · exact k.ky p hp
    · exact ⟨a, b, by rw [List.mem_singleton.mp hp]⟩
structure Wb (K : PySem.W.Frag) (H : Hp) (x dx lw lt kd : Addr) (ws ds : List PyData) : Prop where
  hx : H x = some (.ins (aWeb K) dx (webF lw lt kd))
  hw : ∃ vs, H lw = some (.lst vs) ∧ DpAll K H vs ws
  ht : ∃ vs, H lt = some (.lst vs) ∧ DpAll K H vs ds
  hk : ∃ kn, H kd = some (.dT kn) ∧ Kn ws kn
  pw : Pds ws
  pd : Pds ds
theorem Wb.md {K : PySem.W.Frag} {H H' : Hp} {x dx lw lt kd : Addr} {ws ds : List PyData} {S : List Addr} (W : Wb K H x dx lw lt kd ws ds) (m : Md S H H') (h1 : x ∉ S) (h2 : lw ∉ S) (h3 : lt ∉ S) (h4 : kd ∉ S) : Wb K H' x dx lw lt kd ws ds := by
  obtain ⟨hx, ⟨v1, e1, a1⟩, ⟨v2, e2, a2⟩, ⟨kn, e3, a3⟩, pw, pd⟩ := W
  exact ⟨m.out _ _ hx h1, ⟨v1, m.out _ _ e1 h2, m.dpAll pw.nl a1⟩, ⟨v2, m.out _ _ e2 h3, m.dpAll pd.nl a2⟩, ⟨kn, m.out _ _ e3 h4, a3⟩, pw, pd⟩
theorem Wb.same {K : PySem.W.Frag} {H H' : Hp} {x dx lw lt kd : Addr} {ws ds : List PyData} (W : Wb K H x dx lw lt kd ws ds) (s : Same H H') : Wb K H' x dx lw lt kd ws ds := W.md (S := []) (.of s) (by simp) (by simp) (by simp) (by simp)

section
variable {P : Program} {w : World} {K : PySem.W.Frag} {mg : Str → Option Value} {base : Heap}
/-! __init__ -/
def KnownV (H : Hp) (v : V) (kn : List (List Key × V)) : Prop := (v = .non ∧ kn = []) ∨ ∃ kd, v = .ref kd ∧ H kd = some (.dT kn)
def spInit (K : PySem.W.Frag) : Sp := fun vs H Q _ => ∃ x dx a1 a2 v3 ys zs kn, vs = [.ref x, .ref a1, .ref a2, v3] ∧ H x = some (.ins (aWeb K) dx []) ∧ (SqL K H a1 ys ∨ SqT K H a1 ys) ∧ (SqL K H a2 zs ∨ SqT K H a2 zs) ∧
  KnownV H v3 kn ∧ (kn.map (·.1)).Nodup ∧ kn.length < 1000 ∧ ys.length ≤ 1000 ∧ zs.length ≤ 1000 ∧
  ∀ lw lt kd H', Md [x] H H' → H lw = none → H lt = none → H kd = none → lw ≠ lt → H' x = some (.ins (aWeb K) dx (webF lw lt kd)) → H' lw = some (.lst ys) → H' lt = some (.lst zs) → H' kd = some (.dT kn) → Q .non H'
theorem sq_md {H H' : Hp} {S : List Addr} {a : Addr} {ys : List V} (m : Md S H H') (h : SqL K H a ys ∨ SqT K H a ys) (n : a ∉ S) : SqL K H' a ys ∨ SqT K H' a ys := by
  rcases h with ((h | ⟨o, h⟩) | h) | h
  · exact .inl (.inl (.inl (m.out _ _ h n)))
  · exact .inl (.inl (.inr ⟨o, m.out _ _ h n⟩))
  · exact .inl (.inr h)
  · exact .inr (m.sqT h)
theorem sq_ne {H : Hp} {a x C dx : Addr} {ys : List V} {fs : List (Str × V)} (h : SqL K H a ys ∨ SqT K H a ys) (hx : H x = some (.ins C dx fs)) : (a ≠ x) ∨ ∀ H', SqL K H' a ys ∨ SqT K H' a ys := by
  rcases h with ((h | ⟨o, h⟩) | h) | ((h | ⟨o, h⟩) | h)
  · exact .inl (ne_of h hx (by intro z; cases z))
  · exact .inl (ne_of h hx (by intro z; cases z))
  · exact .inr fun _ => .inl (.inr h)
  · exact .inl (ne_of h hx (by intro z; cases z))
  · exact .inl (ne_of h hx (by intro z; cases z))
  · exact .inr fun _ => .inr (.inr h)
theorem ok_init (T : Txt K mg) : ∃ fd, FunD K "__init__" "Web.__init__" (defArgs s_Web___init__) (defBody s_Web___init__) (defScope s_Web___init__) ([.ref (dflAt ("Web", some "__init__") 0 K), .ref (dflAt ("Web", some "__init__") 1 K), .non] : List V) [] (ma K (ga K "Web") "__init__") fd ∧
    FnOk P w K mg base CX0 1 (ma K (ga K "Web") "__init__") fd ["self", "worths", "wants", "known"] (spInit K) := by
  obtain ⟨fd, F⟩ := T.f_Web___init__
  refine ⟨fd, F, F.ok sc_Web___init__ (fun vs H Q E h => ?_) (fun cdv A outer s H vs Q E hr h => ?_)⟩
  · obtain ⟨x, dx, a1, a2, v3, ys, zs, kn, rfl, _⟩ := h
    rfl
  · obtain ⟨x, dx, a1, a2, v3, ys, zs, kn, rfl, hx, h1, h2, h3, nd, kl, yl, zl, hQ⟩ := h
    refine ⟨_, PSs.nox (pss_cons (ps_fld (pv 0) (pe_callTy call_list_of (by rfl) T.z_list (by decide +kernel) (pa_cons (pv 1) pa_nil)) rfl)
      (pss_cons (ps_fld (pv 0) (pe_callTy call_list_of (by rfl) T.z_list (by decide +kernel) (pa_cons (pv 2) pa_nil)) rfl)
      (pss_one (ps_fld (pv 0) (pe_ifExp (pt_cmpR op_isN (pv 3) pe_non (nomark _)) pe_dnewT (pe_lock (pe_dcG (own := [("worth", 4)]) (tt := tYes) NilD.t hr.units0 (by rfl) sc_Web___init__.nd (pi_keys (pv 3)) (blkOk_by (own := [("worth", 4)]) (N := ["self", "worths", "wants", "known", "worth"]) (sc := defScope s_Web___init__) (by decide +kernel)) (fun _ _ _ _ _ => (pg_name (i := 4) sc_Web___init__.nd rfl (.inl rfl))) (fun _ _ _ _ _ => pts_nil) (fun _ _ _ _ _ => (pv 4)) (fun _ _ _ _ _ => (pe_dget (hu_of hr) (pv 3) (pv 4) (fun _ _ => rfl)))))) rfl)))), ?_⟩
    refine ⟨_, rfl, _, _, rfl, h1, fun lw nw => ?_⟩
    generalize eH1 : upd H lw _ = H1
    have s1 : Same H H1 := eH1 ▸ same_upd nw
    have e1 : H1 lw = some _ := eH1 ▸ upd_same
    refine ⟨_, rfl, _, _, _, _, rfl, s1 _ _ hx, T.o_Web.cl, T.n_Web_worths, (by decide), ?_⟩
    generalize eH2 : upd H1 x _ = H2
    have m2 : Md [x] H1 H2 := eH2 ▸ Md.upd (s1 _ _ hx) rfl (by simp)
    have x2 : H2 x = _ := eH2 ▸ upd_same
    have nwx : lw ≠ x := fun z => by rw [z, hx] at nw; cases nw
    have w2 : H2 lw = some (.lst ys) := m2.out _ _ e1 (by simp [nwx])
    have m02 : Md [x] H H2 := (Md.of s1).trans m2
    have h2' : SqL K H2 a2 zs ∨ SqT K H2 a2 zs := by
      rcases sq_ne h2 hx with z | z
      · exact sq_md m02 h2 (by simp [z])
      · exact z _
    refine ⟨_, rfl, _, _, rfl, h2', fun lt nt => ?_⟩
    generalize eH3 : upd H2 lt _ = H3
    have s3 : Same H2 H3 := eH3 ▸ same_upd nt
    have e3 : H3 lt = some _ := eH3 ▸ upd_same
    refine ⟨_, rfl, _, _, _, _, rfl, s3 _ _ x2, T.o_Web.cl, T.n_Web_wants, (by show 1 < 1000; decide), ?_⟩
    generalize eH4 : upd H3 x _ = H4
    have m4 : Md [x] H3 H4 := eH4 ▸ Md.upd (s3 _ _ x2) rfl (by simp)
    have x4 : H4 x = _ := eH4 ▸ upd_same
    have m04 : Md [x] H H4 := m02.trans ((Md.of s3).trans m4)
    have ntw : lw ≠ lt := fun z => by rw [← z, w2] at nt; cases nt
    have nt0 : H lt = none := by
      cases hh : H lt with
      | none => rfl
      | some o =>
        by_cases z : lt = x
        · rw [z, x2] at nt; cases nt
        · have := m02.out _ _ hh (by simp [z]); rw [nt] at this; cases this
    have ntx : lt ≠ x := fun z => by rw [z, hx] at nt0; cases nt0
    have w4 : H4 lw = some (.lst ys) := m4.out _ _ (s3 _ _ w2) (by simp [nwx])
    have t4 : H4 lt = some (.lst zs) := m4.out _ _ e3 (by simp [ntx])
    -- known
    have fin : ∀ kd H5, H4 kd = none → Same H4 H5 → H5 kd = some (.dT kn) → Q .non (upd H5 x (.ins (aWeb K) dx (putF "known" (.ref kd) (putF "wants" (.ref lt) (putF "worths" (.ref lw) []))))) := fun kd H5 nk s5 e5 => by
      have nk0 : H kd = none := by
        cases hh : H kd with
        | none => rfl
        | some o =>
          by_cases z : kd = x
          · rw [z, x4] at nk; cases nk
          · have := m04.out _ _ hh (by simp [z]); rw [nk] at this; cases this
      have nkx : kd ≠ x := fun z => by rw [z, hx] at nk0; cases nk0
      have m6 : Md [x] H5 (upd H5 x (.ins (aWeb K) dx (putF "known" (.ref kd) (putF "wants" (.ref lt) (putF "worths" (.ref lw) []))))) := Md.upd (s5 _ _ x4) rfl (by simp)
      exact hQ lw lt kd _ (m04.trans ((Md.of s5).trans m6)) nw nt0 nk0 ntw upd_same (by rw [upd_ne nwx]; exact s5 _ _ w4) (by rw [upd_ne ntx]; exact s5 _ _ t4) (by rw [upd_ne nkx]; exact e5)
    rcases h3 with ⟨rfl, rfl⟩ | ⟨kd0, rfl, hk⟩
    · refine ⟨_, rfl, rfl, _, rfl, iteT ?_⟩
      intro kd nk
      generalize eH5 : upd H4 kd _ = H5
      have s5 : Same H4 H5 := eH5 ▸ same_upd nk
      have e5 : H5 kd = some _ := eH5 ▸ upd_same
      refine ⟨_, rfl, _, _, _, _, rfl, s5 _ _ x4, T.o_Web.cl, T.n_Web_known, (by show 2 < 1000; decide), ?_⟩
      subst eH5
      exact fin kd _ nk s5 e5
    · have hk4 : H4 kd0 = some (.dT kn) := m04.out _ _ hk (by simp; exact ne_of hk hx (by intro z; cases z))
      refine ⟨_, rfl, rfl, _, rfl, iteF ?_⟩
      refine ⟨kd0, _, hk4, trivial, fun od => ?_⟩
      generalize eH5 : upd H4 kd0 _ = H5
      have k5 : H5 kd0 = some (.frz od (.dT kn)) := eH5 ▸ upd_same
      refine ⟨_, rfl, _, _, rfl, .inr ⟨_, k5, fun D nD => ?_⟩⟩
      have nD4 : H4 D = none := by
        rw [← eH5] at nD
        by_cases z : D = kd0
        · rw [z, upd_same] at nD; cases nD
        · rw [upd_ne z] at nD; exact nD
      have nDk : D ≠ kd0 := fun z => by rw [z, hk4] at nD4; cases nD4
      refine dcG_it walk_keysT (fun i H' => H' = upd H5 D (.dT (kn.take i))) rfl (fun i H' _ e => by rw [e, upd_ne (Ne.symm nDk)]; exact k5) ?_ ?_
      · rintro i xv H' H'' hi e ⟨e', k, v, q, hg, rfl, hq⟩
        subst e' e
        refine ⟨rfl, tYes_of ?_⟩
        have nDq : q ≠ D := fun z => by rw [z, upd_same] at hq; cases hq
        refine ⟨_, rfl, _, rfl, _, rfl, _, v, rfl, .inr ⟨kn, k, q, .inr ⟨od, by rw [upd_ne (Ne.symm nDk)]; exact k5⟩, rfl, hq, ?_⟩, ?_⟩
        · exact (valV_at nd hg).symm
        · refine ⟨_, DPut.t upd_same hq (Nat.lt_of_le_of_lt (by rw [List.length_take]; exact Nat.min_le_right _ _) (Nat.lt_trans kl (by decide))), ?_⟩
          rw [upd_upd, putK_take nd hg]
      · rintro H' e
        subst e
        rw [List.take_of_length_le (Nat.le_refl _)]
        refine ⟨by rw [upd_ne (Ne.symm nDk)]; exact k5, ?_⟩
        have e6 : upd (upd H5 D (.dT kn)) kd0 (.dT kn) = upd H4 D (.dT kn) := by
          rw [← eH5]
          funext b
          unfold L2.upd
          by_cases z1 : b = kd0
          · rw [if_pos z1, if_neg (by rw [z1]; exact Ne.symm nDk), z1, hk4]
          · rw [if_neg z1]
            by_cases z2 : b = D
            · rw [if_pos z2, if_pos z2]
            · rw [if_neg z2, if_neg z2, if_neg z1]
        rw [e6]
        have s6 : Same H4 (upd H4 D (.dT kn)) := same_upd nD4
        refine ⟨_, rfl, _, _, _, _, rfl, s6 _ _ x4, T.o_Web.cl, T.n_Web_known, (by show 2 < 1000; decide), ?_⟩
        exact fin D _ nD4 s6 upd_same

/-! __len__, point, demands -/
def spLen (K : PySem.W.Frag) : Sp := fun vs H Q _ => ∃ x dx lw lt kd ws ds, vs = [.ref x] ∧ Wb K H x dx lw lt kd ws ds ∧ Q (.int (ws.length : Nat)) H
def spPoint (K : PySem.W.Frag) : Sp := fun vs H Q _ => ∃ x dx lw lt kd ws ds, vs = [.ref x] ∧ Wb K H x dx lw lt kd ws ds ∧ ws.length < 1000 ∧ lt ≠ lw ∧ ∀ H', Md [lw] H H' → Wb K H' x dx lw lt kd (ws ++ [.none]) ds → Q (.int (ws.length : Nat)) H'
theorem Wb.ne1 {H : Hp} {x dx lw lt kd : Addr} {ws ds : List PyData} (W : Wb K H x dx lw lt kd ws ds) : x ≠ lw ∧ x ≠ lt ∧ x ≠ kd ∧ lw ≠ kd ∧ lt ≠ kd := by
  obtain ⟨hx, ⟨v1, e1, _⟩, ⟨v2, e2, _⟩, ⟨kn, e3, _⟩, _, _⟩ := W
  exact ⟨ne_of hx e1 (by intro z; cases z), ne_of hx e2 (by intro z; cases z), ne_of hx e3 (by intro z; cases z), ne_of e1 e3 (by intro z; cases z), ne_of e2 e3 (by intro z; cases z)⟩
theorem d_point (T : Txt K mg) : FnR P w K mg base CX0 1 (ma K (ga K "Web") "point") (spPoint K) := by
  obtain ⟨fd, F⟩ := T.f_Web_point
  refine fnN F (fun _ _ _ _ _ _ us hl => match us, hl with | [_], _ => rfl) sc_Web_point (fun vs H Q E h => ?_) (fun cdv A outer s H vs Q E hr h => ?_)
  · obtain ⟨x, dx, lw, lt, kd, ws, ds, rfl, _⟩ := h
    rfl
  · obtain ⟨x, dx, lw, lt, kd, ws, ds, rfl, W, hl, hne, hQ⟩ := h
    obtain ⟨n1, n2, n3, n4, n5⟩ := W.ne1
    obtain ⟨hx, ⟨v1, e1, a1⟩, ⟨v2, e2, a2⟩, ⟨kn, e3, a3⟩, pw, pd⟩ := W
    have lv : v1.length = ws.length := DpAll.length a1
    refine ⟨_, PSs.nox (pss_cons (ps_expr (pe_bm PySem.F.plainAttrs_list PySem.F.slot_list_append PySem.F.type_list_append mt_append (pe_fld (pv 0) rfl) (pa_cons pe_non pa_nil)))
      (pss_one (ps_ret (pe_op op_sub (pe_callB call_len_seq (by rfl) T.z_len (by decide +kernel) (pa_cons (pe_fld (pv 0) rfl) pa_nil)) pe_int)))), ?_⟩
    refine ⟨_, rfl, _, _, _, _, _, rfl, hx, T.o_Web.cl, T.n_Web_worths, webF_worths, .inl ⟨rfl, _, SqL.of e1⟩, lw, _, _, rfl, rfl, e1, (by rw [lv]; exact Nat.lt_trans hl (by decide)), ?_⟩
    generalize eH : upd H lw _ = H1
    have m1 : Md [lw] H H1 := eH ▸ Md.upd e1 rfl (by simp)
    have e1' : H1 lw = some (.lst (v1 ++ [.non])) := eH ▸ upd_same
    refine ⟨_, rfl, _, _, _, _, _, rfl, m1.out _ _ hx (by simp [n1]), T.o_Web.cl, T.n_Web_worths, webF_worths, _, _, rfl, .inl (SqL.of e1'), _, _, rfl, rfl, ?_⟩
    have e : (((v1 ++ [V.non]).length : Nat) : Int) - 1 = (ws.length : Nat) := by rw [List.length_append, lv]; simp
    show Q (.int ((((v1 ++ [V.non]).length : Nat) : Int) - 1)) H1
    rw [e]
    exact hQ H1 m1 ⟨m1.out _ _ hx (by simp [n1]), ⟨_, e1', DpAll.snoc .non (m1.dpAll pw.nl a1)⟩, ⟨v2, m1.out _ _ e2 (by simp [hne]), m1.dpAll pd.nl a2⟩, ⟨kn, m1.out _ _ e3 (by simp; exact Ne.symm n4), a3.none⟩, pw.snoc ⟨rfl, rfl, by decide⟩, pd⟩
def spDemands (K : PySem.W.Frag) : Sp := fun vs H Q _ => ∃ x dx lw lt kd ws ds, vs = [.ref x] ∧ Wb K H x dx lw lt kd ws ds ∧ ∀ p H' us, H p = none → Same H H' → H' p = some (.lst us) → DpAll K H' us ds → Q (.ref p) H'
/-! fixed -/
def spFixed (K : PySem.W.Frag) : Sp := fun vs H Q E => ∃ x dx lw lt kd ws ds v, vs = [.ref x, v] ∧ Wb K H x dx lw lt kd ws ds ∧ ((∃ th, ThOk K H v th ∧ isValT th = false ∧ E (.ref (ga K "NoValue")) none H) ∨
  ∃ t a b, v = .ref t ∧ H t = some (.tup [.int a, .int b]) ∧ isValD (.tuple [.int a, .int b]) = true ∧ ws.length < 1000 ∧ lt ≠ lw ∧ (∀ i, idx ws a b = some i → Q (.int (i : Nat)) H) ∧
    (idx ws a b = none → ∀ H', Md [lw, kd] H H' → Wb K H' x dx lw lt kd (ws ++ [.tuple [.int a, .int b]]) ds → Q (.int (ws.length : Nat)) H'))
theorem d_fixed (T : Txt K mg) : FnR P w K mg base (L2.CX P w) 3 (ma K (ga K "Web") "fixed") (spFixed K) := by
  obtain ⟨fd, F⟩ := T.f_Web_fixed
  have D_is_value := d_is_value (P := P) (w := w) (base := base) T
  refine fnN F (fun _ _ _ _ _ _ us hl => match us, hl with | [_, _], _ => rfl) sc_Web_fixed (fun vs H Q E h => ?_) (fun cdv A outer s H vs Q E hr h => ?_)
  · obtain ⟨x, dx, lw, lt, kd, ws, ds, v, rfl, _⟩ := h
    rfl
  · obtain ⟨x, dx, lw, lt, kd, ws, ds, v, rfl, W, h⟩ := h
    obtain ⟨n1, n2, n3, n4, n5⟩ := W.ne1
    obtain ⟨hx, ⟨v1, e1, a1⟩, ⟨v2, e2, a2⟩, ⟨kn, e3, a3⟩, pw, pd⟩ := W
    have lv : v1.length = ws.length := DpAll.length a1
    refine ⟨_, (pss_cons (ps_if (pt_not (pt_val (cl D_is_value (hr.mono (by decide)) (pa_cons (pv 1) pa_nil)))) (pss_one (EL.rs (by rfl) (takes_of rfl rfl rfl rfl) T.x_NoValue (by rfl))) pss_nil)
      (pss_cons (ps_if (pt_cmp (pc_dnotin (hu_of hr) (pv 1) (pe_fld (pv 0) rfl))) (pss_cons (ps_dput (hu_of hr) (pe_fld (pv 0) rfl) (pv 1) (pe_callB call_len_seq (by rfl) T.z_len (by decide +kernel) (pa_cons (pe_fld (pv 0) rfl) pa_nil)) rfl)
      (pss_one (ps_expr (pe_bm PySem.F.plainAttrs_list PySem.F.slot_list_append PySem.F.type_list_append mt_append (pe_fld (pv 0) rfl) (pa_cons (pv 1) pa_nil))))) pss_nil)
      (pss_one (ps_ret (pe_dget (hu_of hr) (pe_fld (pv 0) rfl) (pv 1) (fun _ _ => rfl)))))), ?_⟩
    rcases h with ⟨th, ht, hv, hE⟩ | ⟨t, a, b, rfl, ht, hv, hl, hne, hS, hN⟩
    · refine ⟨_, rfl, v, th, rfl, ht, _, rfl, ?_⟩
      rw [hv]
      exact iteT hE
    · have hd : Dp K H (.ref t) (.tuple [.int a, .int b]) := .tup (SqT.of ht) (.cons (.int _) (.cons (.int _) .nil))
      refine ⟨_, rfl, _, .d (.tuple [.int a, .int b]), rfl, hd, _, rfl, ?_⟩
      rw [show isValT (.d (.tuple [.int a, .int b])) = true from hv]
      refine iteF ?_
      have ht' : H t = some (.tup ((tk a b).map kV)) := ht
      refine ⟨_, rfl, _, rfl, _, _, _, _, _, rfl, hx, T.o_Web.cl, T.n_Web_known, webF_known, _, _, rfl, DGet.t (k := tk a b) e3 ht', _, rfl, ?_⟩
      rw [a3.val a b]
      cases hi : idx ws a b with
      | some i =>
        refine iteF ?_
        refine ⟨_, rfl, _, _, _, _, _, rfl, hx, T.o_Web.cl, T.n_Web_known, webF_known, _, rfl, _, .int (i : Nat), rfl, ?_, hS i hi⟩
        have := DGet.t (k := tk a b) e3 ht'
        rw [a3.val a b, hi] at this
        exact this
      | none =>
        refine iteT ?_
        refine ⟨_, rfl, _, _, _, _, _, rfl, hx, T.o_Web.cl, T.n_Web_worths, webF_worths, _, _, rfl, .inl (SqL.of e1), _, rfl, _, _, _, _, _, rfl, hx, T.o_Web.cl, T.n_Web_known, webF_known, _, rfl, _, _, rfl, DPut.t (k := tk a b) e3 ht' (Nat.lt_of_le_of_lt a3.len (Nat.lt_trans hl (by decide))), ?_⟩
        rw [lv]
        generalize eH : upd H kd _ = H1
        have m1 : Md [lw, kd] H H1 := eH ▸ Md.upd e3 rfl (by simp)
        have k1 : H1 kd = some (.dT (putK kn (tk a b) (.int (ws.length : Nat)))) := eH ▸ upd_same
        have x1 := m1.out _ _ hx (by simp [n1, n3])
        have w1 : H1 lw = some (.lst v1) := by rw [← eH, upd_ne n4]; exact e1
        refine ⟨_, rfl, _, _, _, _, _, rfl, x1, T.o_Web.cl, T.n_Web_worths, webF_worths, .inl ⟨rfl, _, SqL.of w1⟩, _, rfl, lw, _, _, rfl, rfl, w1, (by rw [lv]; exact Nat.lt_trans hl (by decide)), ?_⟩
        generalize eH2 : upd H1 lw _ = H2
        have m2 : Md [lw, kd] H1 H2 := eH2 ▸ Md.upd w1 rfl (by simp)
        have w2 : H2 lw = some (.lst (v1 ++ [.ref t])) := eH2 ▸ upd_same
        have x2 := m2.out _ _ x1 (by simp [n1, n3])
        have k2 : H2 kd = some (.dT (putK kn (tk a b) (.int (ws.length : Nat)))) := by rw [← eH2, upd_ne (Ne.symm n4)]; exact k1
        have mm := m1.trans m2
        have t2 : H2 t = some (.tup ((tk a b).map kV)) := mm.rig _ _ ht' rfl
        refine ⟨_, rfl, _, _, _, _, _, rfl, x2, T.o_Web.cl, T.n_Web_known, webF_known, _, rfl, _, .int (ws.length : Nat), rfl, ?_, ?_⟩
        · have := DGet.t (k := tk a b) k2 t2
          rw [valV_put, if_pos rfl] at this
          exact this
        · refine hN hi H2 mm ⟨x2, ⟨_, w2, DpAll.snoc (mm.dp rfl hd) (mm.dpAll pw.nl a1)⟩, ⟨v2, mm.out _ _ e2 (by simp [hne, n5]), mm.dpAll pd.nl a2⟩, ⟨_, k2, a3.put hi⟩, pw.snoc ⟨rfl, rfl, by show 1 ≤ 16; decide⟩, pd⟩

end
end K23
namespace K23
open PySem PySem.Spec PyProof.Rows L2 He TL EL
section
variable {P : Program} {w : World} {K : PySem.W.Frag} {mg : Str → Option Value} {base : Heap}
def sgV : List V := [.str "<", .str "<=", .str "=", .str "!="]
def signOk : PyData → Bool
  | .str z => inV (.str z) sgV
  | _ => false
def numOk (m : Nat) : PyData → Bool
  | .int n => decide (0 ≤ n) && decide (n < (m : Int))
  | _ => false
abbrev xNum (v : V) : HO := .xd [("number", v)]
def spLook (K : PySem.W.Frag) : Sp := fun vs H Q E => ∃ x dx lw lt kd ws ds v0 v1 v2 d0 d1 d2, vs = [.ref x, v0, v1, v2] ∧ Wb K H x dx lw lt kd ws ds ∧ Dp K H v0 d0 ∧ Dp K H v1 d1 ∧ Dp K H v2 d2 ∧
  (signOk d0 = false → E (.ref (ga K "NoCondition")) none H) ∧
  (signOk d0 = true → numOk ws.length d1 = false → ∀ dd H', Same H H' → H' dd = some (xNum v1) → E (.ref (ga K "NoPoint")) (some dd) H') ∧
  (signOk d0 = true → numOk ws.length d1 = true → numOk ws.length d2 = false → ∀ dd H', Same H H' → H' dd = some (xNum v2) → E (.ref (ga K "NoPoint")) (some dd) H') ∧
  (signOk d0 = true → numOk ws.length d1 = true → numOk ws.length d2 = true → ∀ H', Same H H' → Q .non H')
theorem d_look (hP : PF P "/claim/cut.py") (T : Txt K mg) : FnR P w K mg base (L2.CX P w) 2 (ma K (ga K "Web") "look") (spLook K) := by
  obtain ⟨fd, F⟩ := T.f_Web_look
  have D_is_whole := d_is_whole (P := P) (w := w) (base := base) T
  refine fnN F (fun _ _ _ _ _ _ us hl => match us, hl with | [_, _, _, _], _ => rfl) sc_Web_look (fun vs H Q E h => ?_) (fun cdv A outer s H vs Q E hr h => ?_)
  · obtain ⟨x, dx, lw, lt, kd, ws, ds, v0, v1, v2, d0, d1, d2, rfl, _⟩ := h
    rfl
  · obtain ⟨x, dx, lw, lt, kd, ws, ds, v0, v1, v2, d0, d1, d2, rfl, W, h0, h1, h2, hE0, hE1, hE2, hQ⟩ := h
    obtain ⟨vs, hw, aw⟩ := W.hw
    have lv : vs.length = ws.length := DpAll.length aw
    refine ⟨_, (pss_cons (ps_if (PW.pt (pw_or (pt_not (pt_val (pe_callB call_isi (by rfl) T.z_isinstance (by decide +kernel) (pa_cons (pv 1) (pa_cons (pe_bltn (v := .ty "str") (by rfl) T.z_str (by decide +kernel) rfl) pa_nil))))) (pw_or1 (pt_cmpR op_notIn_seq (pv 1) (pe_glob (v := .ref (ga K "SIGNS")) (by rfl) T.g_SIGNS rfl) (by rfl))))) (pss_one (EL.rs (by rfl) (takes_of rfl rfl rfl rfl) T.x_NoCondition (by rfl))) pss_nil)
      (pss_one (ps_for (passes_of rfl) rfl (pi_tup (pe_tup (pa_cons (pv 2) (pa_cons (pv 3) pa_nil)))) (pg_name (i := 4) sc_Web_look.nd rfl (.inl rfl))
      (pss_one (ps_if (PW.pt (pw_or (pt_not (pt_val (cl D_is_whole (hr.mono (by decide)) (pa_cons (pv 4) pa_nil)))) (pw_or1 (pt_not (pt_chain op_le op_lt pe_int (pv 4) (pe_callB call_len_seq (by rfl) T.z_len (by decide +kernel) (pa_cons (pe_fld (pv 0) rfl) pa_nil))))))) (pss_one (rsx (by rfl) (takes_of rfl rfl rfl rfl) hP T.y_NoPoint.1 hr (pa_cons (pv 4) pa_nil))) pss_nil))))), ?_⟩
    refine ⟨_, rfl, _, _, _, _, _, rfl, .ty _, Dp.ty h0, kit_d K .str d0, _, rfl, ?_⟩
    by_cases w0 : ∃ z, d0 = .str z
    · obtain ⟨z, rfl⟩ := w0
      cases h0
      refine iteF ?_
      refine ⟨_, rfl, _, _, rfl, .inr (T.t_SIGNS _), rfl, rfl, _, rfl, ie (fun c => ?_) (fun c => ?_)⟩
      · have c' : (!inV (.str z) sgV) = true := c
        refine hE0 ?_
        show inV (.str z) sgV = false
        cases hv : inV (.str z) sgV with
        | false => rfl
        | true => rw [hv] at c'; cases c'
      · have c' : (!inV (.str z) sgV) = false := c
        have hs : signOk (.str z) = true := by
          show inV (.str z) sgV = true
          cases hv : inV (.str z) sgV with
          | true => rfl
          | false => rw [hv] at c'; cases c'
        refine ⟨_, rfl, _, rfl, (by show 2 ≤ sizeLine; decide), fun p np => ?_⟩
        generalize eH1 : upd H p _ = H1
        have s1 : Same H H1 := eH1 ▸ same_upd np
        have e1 : H1 p = some _ := eH1 ▸ upd_same
        refine ⟨_, rfl, ⟨_, SqT.of e1⟩, ?_⟩
        refine for_tup (xs := [v1, v2]) (fun i σ H' => H1 = H' ∧ (∃ o, σ = [some (.ref x), some (.str z), some v1, some v2, o]) ∧ (1 ≤ i → numOk ws.length d1 = true) ∧ (2 ≤ i → numOk ws.length d2 = true)) ⟨rfl, ⟨none, rfl⟩, fun z => absurd z (by decide), fun z => absurd z (by decide)⟩ (fun i σ H' _ h => by rw [← h.1]; exact SqT.of e1) ?_ ?_
        · rintro i xv σ H' hg ⟨rfl, ⟨o, rfl⟩, k1, k2⟩
          have key : ∃ d, Dp K H1 xv d ∧ (numOk ws.length d = true → (1 ≤ i + 1 → numOk ws.length d1 = true) ∧ (2 ≤ i + 1 → numOk ws.length d2 = true)) ∧ (numOk ws.length d = false → ∀ dd H', Same H1 H' → H' dd = some (xNum xv) → E (.ref (ga K "NoPoint")) (some dd) H') := by
            match i, hg with
            | 0, hg =>
              cases hg
              exact ⟨d1, Dp.same s1 h1, fun z => ⟨fun _ => z, fun z => absurd z (by decide)⟩, fun z dd H' s' e' => hE1 hs z dd H' (s1.trans s') e'⟩
            | 1, hg =>
              cases hg
              exact ⟨d2, Dp.same s1 h2, fun z => ⟨fun _ => k1 (by decide), fun _ => z⟩, fun z dd H' s' e' => hE2 hs (k1 (by decide)) z dd H' (s1.trans s') e'⟩
          obtain ⟨d, hd, good, bad⟩ := key
          have raise : numOk ws.length d = false → ∀ dd, H1 dd = none → E (.ref (ga K "NoPoint")) (some dd) (upd H1 dd (xNum xv)) := fun z dd nd => bad z dd _ (same_upd nd) upd_same
          refine ⟨_, rfl, xv, .d d, rfl, hd, _, rfl, ?_⟩
          rw [isWholeT_d]
          by_cases w1 : ∃ n, d = .int n
          · obtain ⟨n, rfl⟩ := w1
            cases hd
            refine iteF ?_
            refine ⟨_, rfl, _, _, rfl, rfl, _, rfl, ie (fun c1 => ?_) (fun c1 => ?_)⟩
            · refine ⟨_, rfl, _, _, _, _, _, rfl, s1 _ _ W.hx, T.o_Web.cl, T.n_Web_worths, webF_worths, _, _, rfl, .inl (SqL.of (s1 _ _ hw)), _, _, rfl, rfl, _, rfl, ?_⟩
              rw [lv]
              refine ie (fun c2 => ?_) (fun c2 => ?_)
              · have c2' : (!decide (n < (ws.length : Int))) = true := c2
                refine ⟨_, rfl, _, rfl, fun dd nd => ?_⟩
                refine raise ?_ dd nd
                show (decide (0 ≤ n) && decide (n < (ws.length : Int))) = false
                cases hv : decide (n < (ws.length : Int)) with
                | true => rw [hv] at c2'; cases c2'
                | false => rw [Bool.and_false]
              · have c2' : (!decide (n < (ws.length : Int))) = false := c2
                have c1' : decide (0 ≤ n) = true := c1
                have ok : numOk ws.length (.int n) = true := by
                  show (decide (0 ≤ n) && decide (n < (ws.length : Int))) = true
                  rw [c1', Bool.true_and]
                  cases hv : decide (n < (ws.length : Int)) with
                  | true => rfl
                  | false => rw [hv] at c2'; cases c2'
                obtain ⟨g1, g2⟩ := good ok
                exact ⟨rfl, ⟨_, rfl⟩, g1, g2⟩
            · have c1' : decide (0 ≤ n) = false := c1
              refine ⟨_, rfl, ?_⟩
              refine iteT ?_
              refine ⟨_, rfl, _, rfl, fun dd nd => ?_⟩
              refine raise ?_ dd nd
              show (decide (0 ≤ n) && decide (n < (ws.length : Int))) = false
              rw [c1', Bool.false_and]
          · have e2 : isWholeD d = false := by
              cases d <;> first | rfl | exact absurd ⟨_, rfl⟩ w1
            rw [e2]
            refine iteT ?_
            refine ⟨_, rfl, xv, rfl, fun dd nd => ?_⟩
            exact raise (by cases d <;> first | rfl | exact absurd ⟨_, rfl⟩ w1) dd nd
        · rintro σ H' ⟨rfl, ⟨o, rfl⟩, k1, k2⟩
          exact hQ hs (k1 (by show 1 ≤ 2; decide)) (k2 (by show 2 ≤ 2; decide)) H1 s1
    · have e2 : isTy .str d0 = false := by
        cases d0 <;> first | rfl | exact absurd ⟨_, rfl⟩ w0
      rw [e2]
      refine iteT ?_
      exact hE0 (by cases d0 <;> first | rfl | exact absurd ⟨_, rfl⟩ w0)
/-! demand, twin -/
def sgT (v0 v1 v2 : V) : List V := [v0, v1, v2]
def spDemand (K : PySem.W.Frag) : Sp := fun vs H Q E => ∃ x dx lw lt kd ws ds v0 v1 v2 d0 d1 d2, vs = [.ref x, v0, v1, v2] ∧ Wb K H x dx lw lt kd ws ds ∧ Dp K H v0 d0 ∧ Dp K H v1 d1 ∧ Dp K H v2 d2 ∧ ds.length < 1000 ∧ lt ≠ lw ∧
  (signOk d0 = false → E (.ref (ga K "NoCondition")) none H) ∧
  (signOk d0 = true → numOk ws.length d1 = false → ∀ dd H', Same H H' → H' dd = some (xNum v1) → E (.ref (ga K "NoPoint")) (some dd) H') ∧
  (signOk d0 = true → numOk ws.length d1 = true → numOk ws.length d2 = false → ∀ dd H', Same H H' → H' dd = some (xNum v2) → E (.ref (ga K "NoPoint")) (some dd) H') ∧
  (signOk d0 = true → numOk ws.length d1 = true → numOk ws.length d2 = true → ∀ H', Md [lt] H H' → Wb K H' x dx lw lt kd ws (ds ++ [.tuple [d0, d1, d2]]) → Q .non H')
theorem pd_want {d0 d1 d2 : PyData} {m : Nat} (h0 : signOk d0 = true) (h1 : numOk m d1 = true) (h2 : numOk m d2 = true) : Pd (.tuple [d0, d1, d2]) := by
  match d0, h0 with
  | .str z, h0 =>
  match d1, h1 with
  | .int i, _ =>
  match d2, h2 with
  | .int j, _ =>
  refine ⟨rfl, ?_, by show 1 ≤ 16; decide⟩
  have hz : PyData.strOk z = true := by
    have h : inV (.str z) sgV = true := h0
    unfold inV sgV at h
    simp only [List.any_cons, List.any_nil, Bool.or_false, Bool.or_eq_true] at h
    have k : ∀ y : Str, eqV (.str y) (.str z) = true → y = z := fun y e => by
      have e' : (y == z) = true := e
      exact beq_iff_eq.mp e'
    rcases h with h | h | h | h <;> rw [← k _ h] <;> decide +kernel
  show (PyData.strOk z && (true && (true && true))) = true
  rw [hz]
  rfl
theorem d_demand (hP : PF P "/claim/cut.py") (T : Txt K mg) : FnR P w K mg base (L2.CX P w) 3 (ma K (ga K "Web") "demand") (spDemand K) := by
  obtain ⟨fd, F⟩ := T.f_Web_demand
  have D_look := d_look (w := w) (base := base) hP T
  refine fnN F (fun _ _ _ _ _ _ us hl => match us, hl with | [_, _, _, _], _ => rfl) sc_Web_demand (fun vs H Q E h => ?_) (fun cdv A outer s H vs Q E hr h => ?_)
  · obtain ⟨x, dx, lw, lt, kd, ws, ds, v0, v1, v2, d0, d1, d2, rfl, _⟩ := h
    rfl
  · obtain ⟨x, dx, lw, lt, kd, ws, ds, v0, v1, v2, d0, d1, d2, rfl, W, h0, h1, h2, hl, hne, hE0, hE1, hE2, hQ⟩ := h
    obtain ⟨n1, n2, n3, n4, n5⟩ := W.ne1
    refine ⟨_, (pss_cons (ps_expr (pe_methE (pv 0) T.o_Web.cl T.h_Web_look D_look hr (pxx (takes_of rfl rfl rfl rfl)) (pa_cons (pv 1) (pa_cons (pv 2) (pa_cons (pv 3) pa_nil)))))
      (pss_one (ps_expr (pe_bm PySem.F.plainAttrs_list PySem.F.slot_list_append PySem.F.type_list_append mt_append (pe_fld (pv 0) rfl) (pa_cons (pe_tup (pa_cons (pv 1) (pa_cons (pv 2) (pa_cons (pv 3) pa_nil)))) pa_nil))))), ?_⟩
    refine ⟨_, rfl, _, _, _, rfl, W.hx, webF_no (by decide) (by decide) (by decide), _, rfl, _, rfl, _, rfl, ?_⟩
    refine ⟨x, dx, lw, lt, kd, ws, ds, v0, v1, v2, d0, d1, d2, rfl, W, h0, h1, h2, hE0, hE1, hE2, fun g0 g1 g2 H1 s1 => ?_⟩
    obtain ⟨hx, ⟨u1, e1, a1⟩, ⟨u2, e2, a2⟩, ⟨kn, e3, a3⟩, pw, pd⟩ := W.same s1
    have lv : u2.length = ds.length := DpAll.length a2
    refine ⟨_, rfl, _, _, _, _, _, rfl, hx, T.o_Web.cl, T.n_Web_wants, webF_wants, .inl ⟨rfl, _, SqL.of e2⟩, _, rfl, _, rfl, _, rfl, (by show 3 ≤ sizeLine; decide), fun p np => ?_⟩
    generalize eH2 : upd H1 p _ = H2
    have s2 : Same H1 H2 := eH2 ▸ same_upd np
    have h2' : H2 p = some _ := eH2 ▸ upd_same
    refine ⟨lt, _, _, rfl, rfl, s2 _ _ e2, (by rw [lv]; exact Nat.lt_trans hl (by decide)), ?_⟩
    generalize eH : upd H2 lt _ = H3
    have m3 : Md [lt] H2 H3 := eH ▸ Md.upd (s2 _ _ e2) rfl (by simp)
    have t3 : H3 lt = some (.lst (u2 ++ [.ref p])) := eH ▸ upd_same
    have s12 := s1.trans s2
    have hd : Dp K H2 (.ref p) (.tuple [d0, d1, d2]) := .tup (SqT.of h2') (.cons (Dp.same s12 h0) (.cons (Dp.same s12 h1) (.cons (Dp.same s12 h2) .nil)))
    have pdn := pd_want g0 g1 g2
    refine hQ g0 g1 g2 H3 ((Md.of s12).trans m3) ⟨m3.out _ _ (s2 _ _ hx) (by simp [n2]), ⟨u1, m3.out _ _ (s2 _ _ e1) (by simp; exact Ne.symm hne), m3.dpAll pw.nl (DpAll.same s2 a1)⟩, ⟨_, t3, DpAll.snoc (m3.dp pdn.nl hd) (m3.dpAll pd.nl (DpAll.same s2 a2))⟩, ⟨kn, m3.out _ _ (s2 _ _ e3) (by simp; exact Ne.symm n5), a3⟩, pw, pd.snoc pdn⟩

/-! value -/
def spValue (K : PySem.W.Frag) : Sp := fun vs H Q E => ∃ v1 v2 th1 th2, vs = [v1, v2] ∧ ThOk K H v1 th1 ∧ ThOk K H v2 th2 ∧
  ((¬ ∃ t b, th1 = .d (.int t) ∧ th2 = .d (.int b) ∧ b ≠ 0) → E (.ref (ga K "NoValue")) none H) ∧
  (∀ t b : Int, th1 = .d (.int t) → th2 = .d (.int b) → b ≠ 0 → b.natAbs < 2 ^ 8000 ∧ ∀ p H', H p = none → Same H H' → H' p = some (.tup [.int (nrm t b).1, .int (nrm t b).2]) → Q (.ref p) H')
theorem ok_value (T : Txt K mg) : ∃ fd, FunD K "value" "value" (defArgs s_value) (defBody s_value) (defScope s_value) ([.int 1] : List V) [] (ga K "value") fd ∧ FnOk P w K mg base (L2.CX P w) 2 (ga K "value") fd ["top", "bottom"] (spValue K) := by
  obtain ⟨fd, F⟩ := T.f_value
  have D_is_whole := d_is_whole (P := P) (w := w) (base := base) T
  have D_common_divisor := d_common_divisor (P := P) (w := w) (base := base) T
  refine ⟨fd, F, F.ok sc_value (fun vs H Q E h => ?_) (fun cdv A outer s H vs Q E hr h => ?_)⟩
  · obtain ⟨v1, v2, th1, th2, rfl, _⟩ := h
    rfl
  · obtain ⟨v1, v2, th1, th2, rfl, ht1, ht2, hE, hQ⟩ := h
    refine ⟨_, (pss_cons (ps_if (PW.pt (pw_or (pt_not (pt_val (cl D_is_whole (hr.mono (by decide)) (pa_cons (pv 0) pa_nil)))) (pw_or (pt_not (pt_val (cl D_is_whole (hr.mono (by decide)) (pa_cons (pv 1) pa_nil)))) (pw_or1 (pt_cmpR op_eq (pv 1) pe_int (nomark _)))))) (pss_one (EL.rs (by rfl) (takes_of rfl rfl rfl rfl) T.x_NoValue (by rfl))) pss_nil)
      (pss_cons (ps_if (pt_cmpR op_lt (pv 1) pe_int (nomark _)) (pss_one (ps_par (i := 0) (j := 1) (by rfl) sc_value.nd rfl rfl (by decide) rfl rfl (pa_cons (pe_un un_neg (pv 0)) (pa_cons (pe_un un_neg (pv 1)) pa_nil)) (by rfl))) pss_nil)
      (pss_cons (ps_set (i := 2) sc_value.nd rfl (.inl rfl) (cl D_common_divisor (hr.mono (by decide)) (pa_cons (pv 0) (pa_cons (pv 1) pa_nil))))
      (pss_one (ps_ret (pe_tup (pa_cons (pe_op op_fdivW (pv 0) (pv 2)) (pa_cons (pe_op op_fdivW (pv 1) (pv 2)) pa_nil)))))))), ?_⟩
    refine ⟨_, rfl, v1, th1, rfl, ht1, _, rfl, ?_⟩
    by_cases w1 : ∃ a, th1 = .d (.int a)
    · obtain ⟨a, rfl⟩ := w1
      refine iteF ?_
      refine ⟨_, rfl, v2, th2, rfl, ht2, _, rfl, ?_⟩
      by_cases w2 : ∃ b, th2 = .d (.int b)
      · obtain ⟨b, rfl⟩ := w2
        cases ht1
        cases ht2
        refine iteF ?_
        refine ⟨_, rfl, rfl, _, rfl, ie (fun c => ?_) (fun c => ?_)⟩
        · refine hE ?_
          rintro ⟨t, b', e1, e2, hb⟩
          have e3 : b = b' := by injection e2 with e2; injection e2
          subst e3
          have := of_decide_eq_true c
          injection this with this
          exact hb this
        · have hb : b ≠ 0 := fun z => by
            subst z
            exact absurd c (by decide)
          obtain ⟨hz, hQ⟩ := hQ a b rfl rfl hb
          refine ⟨_, rfl, _, _, rfl, rfl, _, rfl, ie (fun c2 => ?_) (fun c2 => ?_)⟩
          · have hneg := of_decide_eq_true c2
            have hp := cd_pos (a := -a) (b := -b) (by omega)
            have hle : cd (-a) (-b) ≤ -b := Int.le_of_dvd (by omega) (cd_dvd_r _ _)
            have hW : ∀ i : Int, CDivW i (cd (-a) (-b)) := fun i => wide_div hp (b := 8000) (Nat.lt_of_le_of_lt (by omega) hz) (by decide) (by decide)
            refine ⟨_, rfl, _, rfl, _, rfl, _, rfl, _, _, rfl, ?_⟩
            refine ⟨_, rfl, _, rfl, _, _, rfl, ?_⟩
            refine ⟨_, rfl, _, rfl, _, _, rfl, rfl, hW _, _, rfl, _, rfl, _, _, rfl, rfl, hW _, (by show 2 ≤ sizeLine; decide), newO fun p H' hp' hs h' => ?_⟩
            refine hQ p H' hp' hs ?_
            rw [h']
            unfold nrm
            rw [if_pos hneg]
          · have hneg := of_decide_eq_false c2
            have hp := cd_pos (a := a) (b := b) hb
            have hle : cd a b ≤ b := Int.le_of_dvd (by omega) (cd_dvd_r _ _)
            have hW : ∀ i : Int, CDivW i (cd a b) := fun i => wide_div hp (b := 8000) (Nat.lt_of_le_of_lt (by omega) hz) (by decide) (by decide)
            refine ⟨_, rfl, _, rfl, _, _, rfl, ?_⟩
            refine ⟨_, rfl, _, rfl, _, _, rfl, rfl, hW _, _, rfl, _, rfl, _, _, rfl, rfl, hW _, (by show 2 ≤ sizeLine; decide), newO fun p H' hp' hs h' => ?_⟩
            refine hQ p H' hp' hs ?_
            rw [h']
            unfold nrm
            rw [if_neg hneg]
      · have e : isWholeT th2 = false := by
          cases th2 with
          | o => rfl
          | d d => cases d <;> first | rfl | exact absurd ⟨_, rfl⟩ w2
        rw [e]
        exact hE fun ⟨t, b, _, e2, _⟩ => w2 ⟨b, e2⟩
    · have e : isWholeT th1 = false := by
        cases th1 with
        | o => rfl
        | d d => cases d <;> first | rfl | exact absurd ⟨_, rfl⟩ w1
      rw [e]
      exact hE fun ⟨t, b, e1, _, _⟩ => w1 ⟨t, e1⟩
/-- value(a, b) -/
theorem d_value2 (T : Txt K mg) : Dn P w K mg base (L2.CX P w) 2 "value" (spValue K) := by
  obtain ⟨fd, F, G⟩ := ok_value (P := P) (w := w) (base := base) T
  obtain ⟨ds, hd, hb⟩ := FunD.binds1 (ps := ["top", "bottom"]) F 2 1 (by simp) rfl fun _ _ _ _ _ _ _ us its h1 h2 => match us, its, h1, h2 with | [_, _], [_], _, _ => ⟨_, rfl, rfl⟩
  cases hd
  exact ⟨T.g_value, F.kp, (G.raw hb .nil).imp fun vs H Q E h => by rw [List.append_nil]; exact h⟩
/-- value(a) -/
theorem d_value1 (T : Txt K mg) : Dn P w K mg base (L2.CX P w) 2 "value" (fun vs H Q E => spValue K (vs ++ [.int 1]) H Q E) := by
  obtain ⟨fd, F, G⟩ := ok_value (P := P) (w := w) (base := base) T
  obtain ⟨ds, hd, hb⟩ := FunD.binds1 (ps := ["top", "bottom"]) F 1 0 (by simp) rfl fun _ _ _ _ _ _ _ us its h1 h2 => match us, its, h1, h2 with | [_], [_], _, _ => ⟨_, rfl, rfl⟩
  exact ⟨T.g_value, F.kp, G.raw hb hd⟩
def swap2 {α : Type} (_ _ ws : List α) : List α := match ws with
  | [b, t] => [t, b]
  | _ => []
/-- value(bottom = b, top = t) -/
theorem kb_value {fd : FuncData} (F : FunD K "value" "value" (defArgs s_value) (defBody s_value) (defScope s_value) ([.int 1] : List V) [] (ga K "value") fd) :
    ∃ its : List Value, KBn K fd ["top", "bottom"] 0 ["bottom", "top"] (fun us ws => swap2 us its ws) (fun vs zs => swap2 vs [.int 1] zs) := by
  refine kbinds1 F 0 ["bottom", "top"] swap2 (by simp) (fun _ _ r => ?_) fun _ _ _ _ _ _ _ us its ws h1 h2 h3 => match us, its, ws, h1, h2, h3 with | [], [_], [_, _], _, _, _ => ⟨_, rfl, rfl⟩
  cases r with
  | nil => exact .nil
  | cons r1 r =>
    cases r with
    | nil => exact .nil
    | cons r2 r =>
      cases r with
      | nil => exact .cons r2 (.cons r1 .nil)
      | cons _ _ => exact .nil

end
/-! signs and values -/
inductive Sg where
  | lt | le | eq | ne
  deriving DecidableEq
def Sg.s : Sg → Str
  | .lt => "<"
  | .le => "<="
  | .eq => "="
  | .ne => "!="
def valD (x : Int × Int) : PyData := .tuple [.int x.1, .int x.2]
/-- a value: lowest terms, not too great -/
structure Vl (x : Int × Int) : Prop where
  low : Low x.1 x.2
  top : x.1.natAbs < 2 ^ 70
  bot : x.2.natAbs < 2 ^ 70
def Sg.holds : Sg → Int × Int → Int × Int → Bool
  | .lt, x, y => decide (x.1 * y.2 < y.1 * x.2)
  | .le, x, y => !decide (y.1 * x.2 < x.1 * y.2)
  | .eq, x, y => decide (x = y)
  | .ne, x, y => !decide (x = y)
theorem Sg.inj {p q : Sg} : (p.s == q.s) = decide (p = q) := by cases p <;> cases q <;> decide +kernel
theorem isVal_of {x : Int × Int} (h : Low x.1 x.2) : isValD (valD x) = true := by
  show (!decide (x.2 < 1) && decide (cd x.1 x.2 = 1)) = true
  rw [decide_eq_false (by have := h.1; omega), decide_eq_true h.2]
  rfl
theorem eqv_int (i j : Int) : PyData.eqv (.int i) (.int j) = decide (i = j) := by
  show (i == j) = _
  by_cases h : i = j
  · subst h; simp
  · rw [decide_eq_false h, beq_eq_false_iff_ne.mpr h]
theorem eqv_valD (x y : Int × Int) : PyData.eqv (valD x) (valD y) = decide (x = y) := by
  show (PyData.eqv (.int x.1) (.int y.1) && (PyData.eqv (.int x.2) (.int y.2) && true)) = _
  rw [eqv_int, eqv_int, Bool.and_true, ← Bool.decide_and]
  exact decide_eq_decide.mpr ⟨fun h => Prod.ext h.1 h.2, fun h => by subst h; exact ⟨rfl, rfl⟩⟩
theorem Pd.valD (x : Int × Int) : Pd (valD x) := ⟨rfl, rfl, by show 1 ≤ 16; decide⟩
section
variable {K : PySem.W.Frag}
theorem dp_val {H : Hp} {v : V} {x : Int × Int} (h : Dp K H v (valD x)) : ∃ q, v = .ref q ∧ SqT K H q [.int x.1, .int x.2] := by
  cases h with
  | tup hS hA =>
    cases hA with
    | cons h1 hA =>
      cases hA with
      | cons h2 hA =>
        cases hA
        cases h1
        cases h2
        exact ⟨_, rfl, hS⟩
theorem DpAll.at {H : Hp} : ∀ {ds : List PyData} {vs : List V} {i : Nat} {d : PyData}, DpAll K H vs ds → ds[i]? = some d → ∃ v, vs[i]? = some v ∧ Dp K H v d
  | _, _, 0, _, .cons a b, e => by cases e; exact ⟨_, rfl, a⟩
  | _, _, i + 1, _, .cons a b, e => DpAll.at (i := i) b e
theorem vl_mul {x y : Int × Int} (h1 : Vl x) (h2 : Vl y) : CMulW x.1 y.2 := wide_mul h1.top h2.bot (by decide) (by decide) (by decide)
theorem getM {α β : Type} {f : α → β} {l : List α} {i : Nat} {d : β} (h : (l.map f)[i]? = some d) : ∃ a, l[i]? = some a ∧ f a = d := by
  rw [List.getElem?_map] at h
  cases e : l[i]? with
  | none => rw [e] at h; cases h
  | some a => rw [e] at h; exact ⟨a, rfl, Option.some.inj h⟩
theorem tk1 {α : Type} {l : List α} {i : Nat} {a : α} (h : l[i]? = some a) : l.take (i + 1) = l.take i ++ [a] := by
  rw [List.take_add_one, h]
  rfl
theorem DpAll.app {H : Hp} : ∀ {ds es : List PyData} {vs us : List V}, DpAll K H vs ds → DpAll K H us es → DpAll K H (vs ++ us) (ds ++ es)
  | _, _, _, _, .nil, h => h
  | _, _, _, _, .cons a b, h => .cons a (DpAll.app b h)
end
/-! values in order -/
abbrev ltV (x y : Int × Int) : Prop := x.1 * y.2 < y.1 * x.2
theorem ltV_trans {x y z : Int × Int} (hx : 0 < x.2) (hy : 0 < y.2) (hz : 0 < z.2) (h1 : ltV x y) (h2 : ltV y z) : ltV x z := by
  unfold ltV at *
  have a : x.1 * y.2 * z.2 < y.1 * x.2 * z.2 := Int.mul_lt_mul_of_pos_right h1 hz
  have b : y.1 * z.2 * x.2 < z.1 * y.2 * x.2 := Int.mul_lt_mul_of_pos_right h2 hx
  have c : y.1 * x.2 * z.2 = y.1 * z.2 * x.2 := by rw [Int.mul_assoc, Int.mul_comm x.2 z.2, ← Int.mul_assoc]
  have d : x.1 * z.2 * y.2 < z.1 * x.2 * y.2 := by
    rw [Int.mul_assoc, Int.mul_comm z.2 y.2, ← Int.mul_assoc, Int.mul_assoc z.1, Int.mul_comm x.2 y.2, ← Int.mul_assoc]
    omega
  exact Int.lt_of_mul_lt_mul_right d (Int.le_of_lt hy)
theorem ltV_irrefl (x : Int × Int) : ¬ ltV x x := Int.lt_irrefl _
theorem ltV_eq {x y : Int × Int} (hx : Low x.1 x.2) (hy : Low y.1 y.2) (h1 : ¬ ltV x y) (h2 : ¬ ltV y x) : x = y := by
  unfold ltV at *
  obtain ⟨a, b⟩ := low_unique hx hy (by omega)
  exact Prod.ext a b
def insV (x : Int × Int) : List (Int × Int) → List (Int × Int)
  | [] => [x]
  | y :: r => if ltV y x then y :: insV x r else if y = x then y :: r else x :: y :: r
def asc (xs : List (Int × Int)) : List (Int × Int) := xs.foldl (fun acc x => insV x acc) []
theorem asc_snoc (xs : List (Int × Int)) (x : Int × Int) : asc (xs ++ [x]) = insV x (asc xs) := by
  unfold asc
  rw [List.foldl_append]
  rfl
theorem insV_at {x : Int × Int} : ∀ {l : List (Int × Int)} {k : Nat}, k ≤ l.length → (∀ i y, i < k → l[i]? = some y → ltV y x) → (∀ y, l[k]? = some y → ¬ ltV y x) → insV x l = if l[k]? = some x then l else l.take k ++ [x] ++ l.drop k
  | [], k, hk, _, _ => by
    cases Nat.le_zero.mp hk
    rfl
  | y :: r, 0, _, _, h2 => by
    have h := h2 y rfl
    show (if ltV y x then y :: insV x r else if y = x then y :: r else x :: y :: r) = if some y = some x then y :: r else x :: y :: r
    rw [if_neg h]
    by_cases e : y = x
    · rw [if_pos e, if_pos (by rw [e])]
    · rw [if_neg e, if_neg (fun z => e (Option.some.inj z))]
  | y :: r, k + 1, hk, h1, h2 => by
    have h := h1 0 y (by omega) rfl
    show (if ltV y x then y :: insV x r else if y = x then y :: r else x :: y :: r) = _
    rw [if_pos h, insV_at (l := r) (k := k) (Nat.le_of_succ_le_succ hk) (fun i z hi hz => h1 (i + 1) z (by omega) hz) (fun z hz => h2 z hz)]
    show y :: (if r[k]? = some x then r else r.take k ++ [x] ++ r.drop k) = if r[k]? = some x then y :: r else y :: (r.take k ++ [x] ++ r.drop k)
    split <;> rfl
theorem insV_mem {x z : Int × Int} : ∀ {l : List (Int × Int)}, z ∈ insV x l ↔ z = x ∨ z ∈ l
  | [] => by simp [insV]
  | y :: r => by
    unfold insV
    split
    · rw [List.mem_cons, insV_mem (l := r), List.mem_cons]
      constructor
      · rintro (h | h | h) <;> simp [h]
      · rintro (h | h | h) <;> simp [h]
    · split
      · rename_i e
        rw [List.mem_cons, e]
        constructor
        · rintro (h | h) <;> simp [h]
        · rintro (h | h | h) <;> simp [h]
      · simp
theorem asc_mem (xs : List (Int × Int)) (z : Int × Int) : z ∈ asc xs ↔ z ∈ xs := by
  have h : ∀ (l acc : List (Int × Int)), z ∈ l.foldl (fun acc x => insV x acc) acc ↔ z ∈ acc ∨ z ∈ l := by
    intro l
    induction l with
    | nil => intro acc; simp
    | cons b r ih =>
      intro acc
      show z ∈ r.foldl _ (insV b acc) ↔ _
      rw [ih, insV_mem, List.mem_cons]
      constructor
      · rintro ((h | h) | h) <;> simp [h]
      · rintro (h | h | h) <;> simp [h]
  have := h xs []
  simpa [asc] using this
theorem insV_len (x : Int × Int) : ∀ l : List (Int × Int), (insV x l).length ≤ l.length + 1
  | [] => Nat.le_refl _
  | y :: r => by
    have := insV_len x r
    unfold insV
    split
    · simp only [List.length_cons]; omega
    · split <;> simp only [List.length_cons] <;> omega
theorem asc_len (xs : List (Int × Int)) : (asc xs).length ≤ xs.length := by
  have h : ∀ (l acc : List (Int × Int)), (l.foldl (fun acc x => insV x acc) acc).length ≤ acc.length + l.length := by
    intro l
    induction l with
    | nil => intro acc; exact Nat.le_refl _
    | cons b r ih =>
      intro acc
      have h1 := ih (insV b acc)
      have h2 := insV_len b acc
      show (r.foldl _ (insV b acc)).length ≤ acc.length + (r.length + 1)
      omega
  have := h xs []
  simpa [asc] using this
abbrev SrtV (l : List (Int × Int)) : Prop := l.Pairwise ltV
theorem insV_srt {x : Int × Int} (hx : Low x.1 x.2) : ∀ {l : List (Int × Int)}, (∀ y ∈ l, Low y.1 y.2) → SrtV l → SrtV (insV x l)
  | [], _, _ => by simp [insV, SrtV]
  | y :: r, hl, hs => by
    obtain ⟨h1, h2⟩ := List.pairwise_cons.mp hs
    have hy := hl y (by simp)
    unfold insV
    split
    · rename_i hlt
      refine List.pairwise_cons.mpr ⟨fun z hz => ?_, insV_srt hx (fun z hz => hl z (by simp [hz])) h2⟩
      rcases insV_mem.mp hz with rfl | hz
      · exact hlt
      · exact h1 z hz
    · split
      · exact hs
      · rename_i hn he
        have hxy : ltV x y := Decidable.byContradiction fun hc => he (ltV_eq hy hx hn hc)
        refine List.pairwise_cons.mpr ⟨fun z hz => ?_, hs⟩
        rcases List.mem_cons.mp hz with rfl | hz
        · exact hxy
        · exact ltV_trans hx.1 hy.1 (hl z (by simp [hz])).1 hxy (h1 z hz)
theorem asc_srt {xs : List (Int × Int)} (h : ∀ x ∈ xs, Low x.1 x.2) : SrtV (asc xs) := by
  have key : ∀ (l acc : List (Int × Int)), (∀ x ∈ l, Low x.1 x.2) → (∀ x ∈ acc, Low x.1 x.2) → SrtV acc → SrtV (l.foldl (fun acc x => insV x acc) acc) := by
    intro l
    induction l with
    | nil => intro acc _ _ h; exact h
    | cons b r ih =>
      intro acc hl ha hs
      refine ih (insV b acc) (fun x hx => hl x (by simp [hx])) (fun x hx => ?_) (insV_srt (hl b (by simp)) ha hs)
      rcases insV_mem.mp hx with rfl | hx
      · exact hl _ (by simp)
      · exact ha x hx
  exact key xs [] h (by simp) .nil
theorem srt_unique : ∀ {l m : List (Int × Int)}, (∀ x ∈ l, Low x.1 x.2) → (∀ x ∈ m, Low x.1 x.2) → SrtV l → SrtV m → (∀ z, z ∈ l ↔ z ∈ m) → l = m
  | [], [], _, _, _, _, _ => rfl
  | [], y :: r, _, _, _, _, h => absurd ((h y).mpr (by simp)) (by simp)
  | y :: r, [], _, _, _, _, h => absurd ((h y).mp (by simp)) (by simp)
  | x :: l, y :: m, hl, hm, sl, sm, h => by
    obtain ⟨l1, l2⟩ := List.pairwise_cons.mp sl
    obtain ⟨m1, m2⟩ := List.pairwise_cons.mp sm
    have lx := hl x (by simp)
    have ly := hm y (by simp)
    have e : x = y := by
      rcases List.mem_cons.mp ((h x).mp (by simp)) with e | hx
      · exact e
      · rcases List.mem_cons.mp ((h y).mpr (by simp)) with e | hy
        · exact e.symm
        · exact absurd (ltV_trans lx.1 ly.1 lx.1 (l1 y hy) (m1 x hx)) (ltV_irrefl x)
    subst e
    congr 1
    refine srt_unique (fun z hz => hl z (by simp [hz])) (fun z hz => hm z (by simp [hz])) l2 m2 fun z => ⟨fun hz => ?_, fun hz => ?_⟩
    · rcases List.mem_cons.mp ((h z).mp (by simp [hz])) with rfl | hz'
      · exact absurd (l1 z hz) (ltV_irrefl z)
      · exact hz'
    · rcases List.mem_cons.mp ((h z).mpr (by simp [hz])) with rfl | hz'
      · exact absurd (m1 z hz) (ltV_irrefl z)
      · exact hz'
theorem asc_same {xs ys : List (Int × Int)} (hx : ∀ x ∈ xs, Low x.1 x.2) (hy : ∀ x ∈ ys, Low x.1 x.2) (h : ∀ z, z ∈ xs ↔ z ∈ ys) : asc xs = asc ys :=
  srt_unique (fun x h' => hx x ((asc_mem xs x).mp h')) (fun x h' => hy x ((asc_mem ys x).mp h')) (asc_srt hx) (asc_srt hy) fun z => by rw [asc_mem, asc_mem]; exact h z

section
variable {P : Program} {w : World} {K : PySem.W.Frag} {mg : Str → Option Value} {base : Heap}
/-! ascending -/
def spAsc (K : PySem.W.Frag) : Sp := fun args H Q _ => ∃ (a : Addr) (vs : List V) (xs : List (Int × Int)), args = [.ref a] ∧ SqL K H a vs ∧ DpAll K H vs (xs.map valD) ∧ (∀ x ∈ xs, Vl x) ∧ xs.length ≤ 1000000 ∧
  ∀ p us H', H p = none → Same H H' → H' p = some (.lst us) → DpAll K H' us ((asc xs).map valD) → (∀ z ∈ us.zip (asc xs), z ∈ vs.zip xs) → Q (.ref p) H'
theorem pds_val (xs : List (Int × Int)) : Pds (xs.map valD) := fun d hd => by
  obtain ⟨x, _, rfl⟩ := List.mem_map.mp hd
  exact Pd.valD x
theorem insV_list {K : PySem.W.Frag} {H : Hp} {us : List V} {l : List (Int × Int)} {x : Int × Int} {v : V} {k : Nat} (h : DpAll K H us (l.map valD)) (hv : Dp K H v (valD x)) : DpAll K H (us.take k ++ [v] ++ us.drop k) ((l.take k ++ [x] ++ l.drop k).map valD) := by
  have tk : ∀ (k : Nat) (us : List V) (ds : List PyData), DpAll K H us ds → DpAll K H (us.take k) (ds.take k) ∧ DpAll K H (us.drop k) (ds.drop k) := by
    intro k
    induction k with
    | zero => intro us ds h; exact ⟨.nil, h⟩
    | succ k ih =>
      intro us ds h
      cases h with
      | nil => exact ⟨.nil, .nil⟩
      | cons a b => exact ⟨.cons a (ih _ _ b).1, (ih _ _ b).2⟩
  obtain ⟨h1, h2⟩ := tk k us _ h
  rw [List.map_append, List.map_append, List.map_take, List.map_drop]
  exact DpAll.app (DpAll.app h1 (.cons hv .nil)) h2
theorem ins_zip {α β : Type} {v : α} {x : β} {z : α × β} : ∀ {k : Nat} {us : List α} {L : List β}, us.length = L.length → z ∈ (us.take k ++ [v] ++ us.drop k).zip (L.take k ++ [x] ++ L.drop k) → z = (v, x) ∨ z ∈ us.zip L
  | 0, us, L, _, h => by
    simpa using h
  | k + 1, [], [], _, h => by
    simp at h; exact .inl h
  | k + 1, a :: us, b :: L, hl, h => by
    rw [List.take_succ_cons, List.take_succ_cons, List.drop_succ_cons, List.drop_succ_cons] at h
    simp only [List.cons_append, List.zip_cons_cons, List.mem_cons] at h
    rcases h with h | h
    · exact .inr (by rw [h]; exact List.mem_cons_self)
    · rcases ins_zip (Nat.succ.inj hl) h with h | h
      · exact .inl h
      · exact .inr (List.mem_cons_of_mem _ h)
theorem srt_lt {L : List (Int × Int)} (h : SrtV L) {i j : Nat} {x y : Int × Int} (hx : L[i]? = some x) (hy : L[j]? = some y) (hij : i < j) : ltV x y := by
  obtain ⟨h1, rfl⟩ := List.getElem?_eq_some_iff.mp hx
  obtain ⟨h2, rfl⟩ := List.getElem?_eq_some_iff.mp hy
  exact List.pairwise_iff_getElem.mp h i j h1 h2 hij
theorem d_ascending (T : Txt K mg) : Dn P w K mg base CX0 2 "ascending" (spAsc K) := by
  obtain ⟨fd, F⟩ := T.f_ascending
  have D_less := d_less (P := P) (w := w) (base := base) T
  refine dnN T.g_ascending F (fun _ _ _ _ _ _ us hl => match us, hl with | [_], _ => rfl) sc_ascending (fun vs H Q E h => ?_) (fun cdv A outer s H vs Q E hr h => ?_)
  · obtain ⟨a, vs, xs, rfl, _⟩ := h
    rfl
  · obtain ⟨a, vs, xs, rfl, hS, hA, hV, hl, hQ⟩ := h
    refine ⟨_, PSs.nox (pss_cons (ps_set (i := 1) sc_ascending.nd rfl (.inl rfl) (pe_lst pa_nil))
      (pss_cons (ps_for PassesOwn.never rfl (pi_list (pv 0)) (pg_name (i := 2) sc_ascending.nd rfl (.inl rfl))
      (pss_cons (ps_set (i := 3) sc_ascending.nd rfl (.inl rfl) pe_int)
      (pss_cons (ps_set (i := 4) sc_ascending.nd rfl (.inl rfl) (pe_callB call_len_seq (by rfl) T.z_len (by decide +kernel) (pa_cons (pv 1) pa_nil)))
      (pss_mid (ps_while PassesOwn.never (pt_cmpR op_lt (pv 3) (pv 4) (nomark _))
      (pss_cons (ps_set (i := 5) sc_ascending.nd rfl (.inl rfl) (pe_op op_fdivW (pe_op op_add (pv 3) (pv 4)) pe_int))
      (pss_one (ps_if (pt_val (cl D_less (hr.mono (by decide)) (pa_cons (pe_ix ix_list (pv 1) (pv 5) (fun _ _ => rfl)) (pa_cons (pv 2) pa_nil)))) (pss_one (ps_set (i := 3) sc_ascending.nd rfl (.inl rfl) (pe_op op_add (pv 5) pe_int))) (pss_one (ps_set (i := 4) sc_ascending.nd rfl (.inl rfl) (pv 5)))))))
      (pss_one (ps_if (PW.pt (pw_or (pt_cmpR op_eq (pv 3) (pe_callB call_len_seq (by rfl) T.z_len (by decide +kernel) (pa_cons (pv 1) pa_nil)) (nomark _)) (pw_or1 (pt_cmpR (op_neD hr.units) (pe_ix ix_list (pv 1) (pv 3) (fun _ _ => rfl)) (pv 2) (nomark _))))) (pss_one (ps_expr (pe_bm PySem.F.plainAttrs_list PySem.F.slot_list_insert PySem.F.type_list_insert mt_insert (pv 1) (pa_cons (pv 3) (pa_cons (pv 2) pa_nil))))) pss_nil))))))
      (pss_one (ps_ret (pv 1))))), ?_⟩
    refine ⟨(by show 0 ≤ sizeLine; decide), fun p np => ?_⟩
    generalize eH1 : upd H p _ = H1
    have s1 : Same H H1 := eH1 ▸ same_upd np
    have e1 : H1 p = some _ := eH1 ▸ upd_same
    have sm : ∀ {H' : Hp}, Md [p] H1 H' → Same H H' := fun {H'} m => (Md.newM (S := []) m (Md.of s1) np).same
    have lv : vs.length = xs.length := by rw [DpAll.length hA, List.length_map]
    refine ⟨_, rfl, a, rfl, ⟨_, s1.seq hS⟩, for_list (K := K) (a := a) (xs := vs) (fun i σ H' => (∃ o1 o2 o3 o4, σ = [some (.ref a), some (.ref p), o1, o2, o3, o4]) ∧ ∃ us, H' p = some (.lst us) ∧ DpAll K H' us ((asc (xs.take i)).map valD) ∧ Md [p] H1 H' ∧ ∀ z ∈ us.zip (asc (xs.take i)), z ∈ vs.zip xs) ⟨⟨none, none, none, none, rfl⟩, [], e1, .nil, .refl _ _, by simp⟩ (fun i σ H' _ h => ?_) ?_ ?_⟩
    · obtain ⟨_, us, _, _, m, _⟩ := h
      exact (sm m).seq hS
    · rintro i v σ H' hg ⟨⟨o1, o2, o3, o4, rfl⟩, us, eu, au, m, hu⟩
      obtain ⟨d, hd, hdp⟩ := DpAll.get hA hg
      obtain ⟨x, hx, rfl⟩ := getM hd
      have hdp' := m.dp (Pd.valD x).nl (Dp.same s1 hdp)
      have vx := hV x (List.mem_of_getElem? hx)
      obtain ⟨q, rfl, hq⟩ := dp_val hdp'
      have hA1 : asc (xs.take (i + 1)) = insV x (asc (xs.take i)) := by rw [tk1 hx, asc_snoc]
      generalize hL : asc (xs.take i) = L at au hA1 hu
      have lu : us.length = L.length := by rw [DpAll.length au, List.length_map]
      have vL : ∀ y ∈ L, Vl y := fun y hy => hV y (List.mem_of_mem_take ((asc_mem _ y).mp (hL ▸ hy)))
      have lL : L.length ≤ 1000000 := by
        have h1 := asc_len (xs.take i)
        rw [hL, List.length_take] at h1
        omega
      have sL : SrtV L := hL ▸ asc_srt fun y hy => (hV y (List.mem_of_mem_take hy)).low
      have at_ : ∀ {k : Nat} {y : Int × Int}, L[k]? = some y → ∃ r, us[k]? = some (V.ref r) ∧ SqT K H' r [.int y.1, .int y.2] := fun {k y} hk => by
        have hlt : k < us.length := by rw [lu]; exact (List.getElem?_eq_some_iff.mp hk).1
        obtain ⟨d, hd, hdp⟩ := DpAll.get au (List.getElem?_eq_getElem hlt)
        rw [List.getElem?_map, hk] at hd
        cases hd
        obtain ⟨r, er, hr⟩ := dp_val hdp
        exact ⟨r, by rw [List.getElem?_eq_getElem hlt, er], hr⟩
      refine ⟨_, rfl, _, _, rfl, .inl (SqL.of eu), ?_⟩
      refine ⟨fun σ' H2 => H' = H2 ∧ ∃ (k : Nat) (o3 o4 : Option V), σ' = [some (.ref a), some (.ref p), some (.ref q), some (.int (k : Nat)), o3, o4] ∧ k ≤ L.length ∧ (∀ j y, j < k → L[j]? = some y → ltV y x) ∧ (∀ y, L[k]? = some y → ¬ ltV y x), ?_, ?_⟩
      · refine ⟨fun mm σ' H2 => H' = H2 ∧ ∃ (lo hi : Nat) (o4 : Option V), mm = hi - lo ∧ lo ≤ hi ∧ hi ≤ L.length ∧ σ' = [some (.ref a), some (.ref p), some (.ref q), some (.int (lo : Nat)), some (.int (hi : Nat)), o4] ∧ (∀ j y, j < lo → L[j]? = some y → ltV y x) ∧ (∀ j y, hi ≤ j → L[j]? = some y → ¬ ltV y x), ⟨L.length, rfl, 0, L.length, o4, rfl, Nat.zero_le _, Nat.le_refl _, by rw [← lu]; rfl, fun j y hj => absurd hj (Nat.not_lt_zero _), fun j y hj hy => absurd (List.getElem?_eq_some_iff.mp hy).1 (by omega)⟩, ?_⟩
        rintro mm σ' H2 ⟨rfl, lo, hi, o5, rfl, h1, h2, rfl, hlo, hhi⟩
        refine ⟨_, rfl, _, rfl, _, _, rfl, rfl, _, rfl, ie (fun c => ?_) (fun c => ?_)⟩
        · have hlt : lo < hi := by have := of_decide_eq_true c; omega
          refine ⟨_, fun σ' H2 hN => hN, ?_⟩
          refine ⟨_, rfl, _, rfl, _, _, rfl, rfl, _, _, rfl, rfl, ⟨by decide, by decide⟩, ?_⟩
          have em : ((lo : Int) + (hi : Int)) / 2 = (((lo + hi) / 2 : Nat) : Int) := by omega
          have hm : (lo + hi) / 2 < hi := by omega
          have hm0 : lo ≤ (lo + hi) / 2 := by omega
          generalize (lo + hi) / 2 = md at em hm hm0
          obtain ⟨y, hy⟩ : ∃ y, L[md]? = some y := ⟨_, List.getElem?_eq_getElem (by omega)⟩
          obtain ⟨r, er, hr1⟩ := at_ hy
          have vy := vL y (List.mem_of_getElem? hy)
          refine ⟨_, rfl, _, rfl, _, _, _, _, rfl, rfl, SqL.of eu, (em ▸ atI_nat er : atI us (((lo : Int) + (hi : Int)) / 2) = some (.ref r)), _, rfl, r, q, _, _, _, _, rfl, hr1, hq, vl_mul vy vx, vl_mul vx vy, _, rfl, ie (fun c2 => ?_) (fun c2 => ?_)⟩
          · have c2 := of_decide_eq_true c2
            refine ⟨_, rfl, _, _, rfl, rfl, ?_⟩
            refine ⟨hi - (md + 1), by omega, rfl, md + 1, hi, _, rfl, by omega, h2, (by show [_, _, _, some (V.int (((lo : Int) + (hi : Int)) / 2 + 1)), _, _] = _; rw [em]; rfl), fun j z hj hz => ?_, hhi⟩
            by_cases hjm : j = md
            · rw [hjm, hy] at hz
              cases hz
              exact c2
            · exact ltV_trans (vL z (List.mem_of_getElem? hz)).low.1 vy.low.1 vx.low.1 (srt_lt sL hz hy (by omega)) c2
          · have c2 := of_decide_eq_false c2
            refine ⟨_, rfl, ?_⟩
            refine ⟨md - lo, by omega, rfl, lo, md, _, rfl, by omega, by omega, (by show [_, _, _, _, some (V.int (((lo : Int) + (hi : Int)) / 2)), _] = _; rw [em]), hlo, fun j z hj hz => ?_⟩
            by_cases hjm : j = md
            · rw [hjm, hy] at hz
              cases hz
              exact c2
            · exact fun hlt => c2 (ltV_trans vy.low.1 (vL z (List.mem_of_getElem? hz)).low.1 vx.low.1 (srt_lt sL hy hz (by omega)) hlt)
        · have hge : lo = hi := by have := of_decide_eq_false c; omega
          exact ⟨rfl, lo, _, _, rfl, by omega, hlo, fun y hy => hhi lo y (by omega) hy⟩
      · rintro σ' H2 ⟨rfl, k, o3, o4, rfl, hk, h1, h2⟩
        have hI := insV_at hk h1 h2
        have fin : L[k]? ≠ some x → DpAll K H' us (L.map valD) → (∃ us', upd H' p (.lst (us.take k ++ [V.ref q] ++ us.drop k)) p = some (.lst us') ∧ DpAll K (upd H' p (.lst (us.take k ++ [V.ref q] ++ us.drop k))) us' ((asc (xs.take (i + 1))).map valD) ∧ Md [p] H1 (upd H' p (.lst (us.take k ++ [V.ref q] ++ us.drop k))) ∧ ∀ z ∈ us'.zip (asc (xs.take (i + 1))), z ∈ vs.zip xs) := fun hne _ => by
          have mu : Md [p] H' (upd H' p (.lst (us.take k ++ [V.ref q] ++ us.drop k))) := Md.upd eu rfl (by simp)
          refine ⟨_, upd_same, ?_, m.trans mu, fun z hz => ?_⟩
          rotate_left
          · rw [hA1, hI, if_neg hne] at hz
            rcases ins_zip lu hz with hz | hz
            · rw [hz]
              exact List.mem_of_getElem? (List.getElem?_zip_eq_some.mpr ⟨hg, hx⟩)
            · exact hu z hz
          rw [hA1, hI, if_neg hne]
          exact mu.dpAll (pds_val _).nl (insV_list au hdp')
        have hlu : us.length < sizeLine := by rw [lu]; exact Nat.lt_of_le_of_lt lL (by decide)
        have ins : L[k]? ≠ some x → ∃ us', upd H' p (.lst (us.take ((k : Nat) : Int).toNat ++ [V.ref q] ++ us.drop ((k : Nat) : Int).toNat)) p = some (.lst us') ∧ DpAll K (upd H' p (.lst (us.take ((k : Nat) : Int).toNat ++ [V.ref q] ++ us.drop ((k : Nat) : Int).toNat))) us' ((asc (xs.take (i + 1))).map valD) ∧ Md [p] H1 (upd H' p (.lst (us.take ((k : Nat) : Int).toNat ++ [V.ref q] ++ us.drop ((k : Nat) : Int).toNat))) ∧ ∀ z ∈ us'.zip (asc (xs.take (i + 1))), z ∈ vs.zip xs := fun hne => fin hne au
        refine ⟨_, rfl, _, rfl, _, _, rfl, .inl (SqL.of eu), rfl, _, rfl, ?_⟩
        by_cases hkl : k = L.length
        · refine if_pos_of (by show decide (V.int ((k : Nat) : Int) = V.int (us.length : Nat)) = true; rw [lu, hkl]; exact decide_eq_true rfl) ?_
          have hne : L[k]? ≠ some x := by rw [hkl, List.getElem?_eq_none (Nat.le_refl _)]; simp
          refine ⟨_, rfl, .inl ⟨rfl, _, SqL.of eu⟩, _, rfl, _, rfl, p, us, _, _, rfl, rfl, eu, hlu, by omega, by omega, ?_⟩
          exact ⟨⟨_, _, _, _, rfl⟩, ins hne⟩
        · have hlt : k < L.length := by omega
          obtain ⟨y, hy⟩ : ∃ y, L[k]? = some y := ⟨_, List.getElem?_eq_getElem hlt⟩
          obtain ⟨r, er, hr1⟩ := at_ hy
          refine if_neg_of (by show decide (V.int ((k : Nat) : Int) = V.int (us.length : Nat)) = false; exact decide_eq_false (fun z => hkl (by have := V.int.inj z; omega))) ?_
          refine ⟨_, rfl, _, rfl, _, _, _, _, rfl, rfl, SqL.of eu, atI_nat er, _, rfl, _, _, .tup hr1 (.cons (.int _) (.cons (.int _) .nil)), hdp', (Pd.valD y).shaped, (Pd.valD x).shaped, _, rfl, ?_⟩
          by_cases hyx : y = x
          · refine if_neg_of (by show (!PyData.eqv (valD y) (valD x)) = false; rw [eqv_valD, decide_eq_true hyx]; rfl) ?_
            refine ⟨⟨_, _, _, _, rfl⟩, us, eu, ?_, m, ?_⟩
            · rw [hA1, hI, if_pos (by rw [hy, hyx])]
              exact au
            · rw [hA1, hI, if_pos (by rw [hy, hyx])]
              exact hu
          · refine if_pos_of (by show (!PyData.eqv (valD y) (valD x)) = true; rw [eqv_valD, decide_eq_false hyx]; rfl) ?_
            refine ⟨_, rfl, .inl ⟨rfl, _, SqL.of eu⟩, _, rfl, _, rfl, p, us, _, _, rfl, rfl, eu, hlu, by omega, by omega, ?_⟩
            exact ⟨⟨_, _, _, _, rfl⟩, ins (by rw [hy]; exact fun z => hyx (Option.some.inj z))⟩
    · rintro σ H' ⟨⟨o1, o2, o3, o4, rfl⟩, us, eu, au, m, hu⟩
      rw [lv, List.take_length] at au hu
      exact ⟨_, rfl, hQ p us H' np (sm m) eu au hu⟩

end
end K23
namespace K23
/-! reach -/
inductive Rch (S : Nat → List Nat) : Nat → Nat → Prop
  | refl (u : Nat) : Rch S u u
  | step {u v x : Nat} : v ∈ S u → Rch S v x → Rch S u x
theorem Rch.trans {S : Nat → List Nat} {u v x : Nat} (h : Rch S u v) : Rch S v x → Rch S u x := by
  induction h with
  | refl => exact id
  | step a _ ih => exact fun k => .step a (ih k)
theorem Rch.one {S : Nat → List Nat} {u v : Nat} (h : v ∈ S u) : Rch S u v := .step h (.refl _)
/-- a path that leaves a set leaves it by an edge -/
theorem Rch.leave {S : Nat → List Nat} {D : Nat → Prop} {M : Nat → Prop} (cl : ∀ u, D u → ∀ v ∈ S u, D v ∨ M v) {u s : Nat} (h : Rch S u s) : D u → ¬ D s → ∃ y, M y ∧ Rch S u y := by
  induction h with
  | refl => exact fun a b => absurd a b
  | step a _ ih =>
    intro d n
    rcases cl _ d _ a with d' | m
    · obtain ⟨y, my, hy⟩ := ih d' n
      exact ⟨y, my, .step a hy⟩
    · exact ⟨_, m, .one a⟩
/-! the order of finishing -/
abbrev Fr := Nat × Nat × Nat
def nodes (st : List Fr) : List Nat := st.map (·.1)
def Lv (S : Nat → List Nat) (o : List Nat) : List Fr → Prop
  | [] => True
  | (x, _, c) :: b => c ≤ o.length ∧ (∀ u ∈ o.take c, ∀ v ∈ S u, v ∈ o.take c ∨ v ∈ nodes b) ∧ (∀ u ∈ o.drop c, Rch S x u) ∧ (∀ y ∈ nodes b, Rch S y x) ∧ Lv S o b
def Qf (S : Nat → List Nat) (o : List Nat) : Prop := ∀ q s, o[q]? = some s → ∀ u, Rch S u s → ∃ r, Rch S u r ∧ Rch S r u ∧ r ∉ o.take q
theorem Lv.app {S : Nat → List Nat} {o : List Nat} {s : Nat} : ∀ {b : List Fr}, Lv S o b → (∀ y ∈ nodes b, Rch S y s) → Lv S (o ++ [s]) b
  | [], _, _ => trivial
  | (x, t, c) :: b, ⟨h1, h2, h3, h4, h5⟩, k => by
    refine ⟨by rw [List.length_append]; omega, ?_, ?_, h4, Lv.app h5 fun y hy => k y (List.mem_cons_of_mem _ hy)⟩
    · rw [List.take_append_of_le_length h1]
      exact h2
    · rw [List.drop_append_of_le_length h1]
      intro u hu
      rcases List.mem_append.mp hu with hu | hu
      · exact h3 u hu
      · rw [List.mem_singleton.mp hu]
        exact k x List.mem_cons_self
theorem Lv.find {S : Nat → List Nat} {o : List Nat} {u s : Nat} (hr : Rch S u s) (hs : s ∉ o) : ∀ {st : List Fr} (D : Nat → Prop), Lv S o st → (∀ v, D v → v ∈ o) → (∀ u, D u → ∀ v ∈ S u, D v ∨ v ∈ nodes st) → D u → ∃ y ∈ nodes st, Rch S u y ∧ Rch S y u
  | [], D, _, ho, cl, du => by
    obtain ⟨y, my, _⟩ := hr.leave cl du fun z => hs (ho _ z)
    cases my
  | (x, t, c) :: b, D, ⟨h1, h2, h3, h4, h5⟩, ho, cl, du => by
    by_cases hu : u ∈ o.take c
    · obtain ⟨y, my, r1, r2⟩ := Lv.find hr hs (fun v => v ∈ o.take c) h5 (fun v hv => List.mem_of_mem_take hv) h2 hu
      exact ⟨y, List.mem_cons_of_mem _ my, r1, r2⟩
    · have hd : u ∈ o.drop c := by
        have := ho u du
        rw [← List.take_append_drop c o] at this
        rcases List.mem_append.mp this with z | z
        · exact absurd z hu
        · exact z
      obtain ⟨y, my, r⟩ := hr.leave cl du fun z => hs (ho _ z)
      refine ⟨y, my, r, ?_⟩
      rcases List.mem_cons.mp my with z | z
      · rw [show y = x from z]
        exact h3 u hd
      · exact (h4 y z).trans (h3 u hd)
structure Dfs (n : Nat) (S : Nat → List Nat) (e : List Bool) (o : List Nat) (st : List Fr) : Prop where
  len : e.length = n
  nd : (o ++ nodes st).Nodup
  ent : ∀ v, e[v]? = some true ↔ v ∈ o ∨ v ∈ nodes st
  cl : ∀ u ∈ o, ∀ v ∈ S u, v ∈ o ∨ v ∈ nodes st
  lv : Lv S o st
  q : Qf S o
  fl : ∀ t ∈ st, t.2.1 ≤ (S t.1).length ∧ ∀ j v, j < t.2.1 → (S t.1)[j]? = some v → e[v]? = some true
theorem Dfs.init {n : Nat} {S : Nat → List Nat} : Dfs n S (List.replicate n false) [] [] := by
  refine ⟨by simp, by simp [nodes], fun v => ?_, by simp, trivial, fun q s h => by simp at h, by simp⟩
  simp [nodes, List.getElem?_replicate]
theorem set_true {e : List Bool} {x v : Nat} : (e.set x true)[v]? = some true ↔ (v = x ∧ x < e.length) ∨ e[v]? = some true := by
  rw [List.getElem?_set]
  by_cases h : x = v
  · subst h
    rw [if_pos rfl]
    by_cases k : x < e.length
    · simp [k]
    · simp [k]
  · rw [if_neg h]
    constructor
    · exact .inr
    · rintro (⟨z, _⟩ | z)
      · exact absurd z.symm h
      · exact z
theorem Dfs.start {n : Nat} {S : Nat → List Nat} {e : List Bool} {o : List Nat} {x : Nat} (D : Dfs n S e o []) (hx : e[x]? = some false) : Dfs n S (e.set x true) o [(x, 0, o.length)] := by
  have hl := (List.getElem?_eq_some_iff.mp hx).1
  have hn : x ∉ o := fun z => by have := (D.ent x).mpr (.inl z); rw [hx] at this; cases this
  refine ⟨by rw [List.length_set]; exact D.len, ?_, fun v => ?_, fun u hu v hv => ?_, ⟨Nat.le_refl _, ?_, by simp, by simp [nodes], trivial⟩, D.q, ?_⟩
  · have := D.nd
    simp only [nodes, List.map_nil, List.append_nil] at this
    simp only [nodes, List.map_cons, List.map_nil]
    refine List.nodup_append.mpr ⟨this, by simp, fun a ha b hb => ?_⟩
    rw [List.mem_singleton.mp hb]
    exact fun z => hn (z ▸ ha)
  · rw [set_true, D.ent]
    simp only [nodes, List.map_nil, List.map_cons, List.mem_singleton, List.not_mem_nil, or_false]
    constructor
    · rintro (⟨rfl, _⟩ | z)
      · exact .inr rfl
      · exact .inl z
    · rintro (z | rfl)
      · exact .inr z
      · exact .inl ⟨rfl, hl⟩
  · rcases D.cl u hu v hv with z | z
    · exact .inl z
    · cases z
  · rw [List.take_length]
    intro u hu v hv
    rcases D.cl u hu v hv with z | z
    · exact .inl z
    · cases z
  · intro t ht
    rw [List.mem_singleton.mp ht]
    exact ⟨Nat.zero_le _, fun j v h => absurd h (Nat.not_lt_zero _)⟩
/-- the top is done -/
theorem Dfs.fin {n : Nat} {S : Nat → List Nat} {e : List Bool} {o : List Nat} {x c : Nat} {b : List Fr} (D : Dfs n S e o ((x, (S x).length, c) :: b)) : Dfs n S e (o ++ [x]) b := by
  obtain ⟨h1, h2, h3, h4, h5⟩ := D.lv
  have nd : (o ++ x :: nodes b).Nodup := D.nd
  have hn : x ∉ o := fun z => (List.nodup_append.mp nd).2.2 x z x (by simp) rfl
  refine ⟨D.len, by rw [List.append_assoc]; exact nd, fun v => ?_, fun u hu v hv => ?_, Lv.app h5 h4, ?_, fun t ht => D.fl t (List.mem_cons_of_mem _ ht)⟩
  · rw [D.ent]
    simp only [nodes, List.map_cons, List.mem_cons, List.mem_append, List.mem_singleton, List.not_mem_nil, or_false]
    exact ⟨fun z => by rcases z with z | z | z <;> simp [z], fun z => by rcases z with (z | z) | z <;> simp [z]⟩
  · have key : v ∈ o ∨ v ∈ nodes ((x, (S x).length, c) :: b) := by
      rcases List.mem_append.mp hu with hu | hu
      · exact D.cl u hu v hv
      · rw [List.mem_singleton.mp hu] at hv
        obtain ⟨j, hj, ej⟩ := List.getElem_of_mem hv
        have := (D.fl _ List.mem_cons_self).2 j v hj (by rw [List.getElem?_eq_getElem hj, ej])
        exact (D.ent v).mp this
    rcases key with z | z
    · exact .inl (List.mem_append_left _ z)
    · rcases List.mem_cons.mp z with z | z
      · exact .inl (List.mem_append_right _ (by rw [show v = x from z]; simp))
      · exact .inr z
  · intro q s hq u hu
    by_cases hlt : q < o.length
    · rw [List.getElem?_append_left hlt] at hq
      rw [List.take_append_of_le_length (Nat.le_of_lt hlt)]
      exact D.q q s hq u hu
    · have hq2 := (List.getElem?_eq_some_iff.mp hq).1
      rw [List.length_append, List.length_singleton] at hq2
      have e : q = o.length := by omega
      subst e
      rw [List.getElem?_append_right (Nat.le_refl _), Nat.sub_self] at hq
      have hs : s = x := by simpa using hq.symm
      subst hs
      rw [List.take_append_of_le_length (Nat.le_refl _), List.take_length]
      by_cases ho : u ∈ o
      · obtain ⟨y, my, r1, r2⟩ := Lv.find hu hn (fun v => v ∈ o) D.lv (fun v => id) D.cl ho
        exact ⟨y, r1, r2, fun z => (List.nodup_append.mp D.nd).2.2 y z y my rfl⟩
      · exact ⟨u, .refl _, .refl _, ho⟩
/-- one more successor of the top, known -/
theorem Dfs.go {n : Nat} {S : Nat → List Nat} {e : List Bool} {o : List Nat} {x i c y : Nat} {b : List Fr} (D : Dfs n S e o ((x, i, c) :: b)) (hy : (S x)[i]? = some y) (he : e[y]? = some true) : Dfs n S e o ((x, i + 1, c) :: b) := by
  refine ⟨D.len, D.nd, D.ent, D.cl, D.lv, D.q, fun t ht => ?_⟩
  rcases List.mem_cons.mp ht with rfl | ht
  · refine ⟨(List.getElem?_eq_some_iff.mp hy).1, fun j v hj hv => ?_⟩
    by_cases z : j = i
    · subst z
      rw [hy] at hv
      cases hv
      exact he
    · exact (D.fl _ List.mem_cons_self).2 j v (by have : j < i + 1 := hj; show j < i; omega) hv
  · exact D.fl t (List.mem_cons_of_mem _ ht)
/-- one more successor of the top, new -/
theorem Dfs.push {n : Nat} {S : Nat → List Nat} {e : List Bool} {o : List Nat} {x i c y : Nat} {b : List Fr} (D : Dfs n S e o ((x, i, c) :: b)) (hy : (S x)[i]? = some y) (he : e[y]? = some false) : Dfs n S (e.set y true) o ((y, 0, o.length) :: (x, i + 1, c) :: b) := by
  have hl := (List.getElem?_eq_some_iff.mp he).1
  obtain ⟨h1, h2, h3, h4, h5⟩ := D.lv
  have hno : y ∉ o ∧ y ∉ x :: nodes b := by
    constructor
    · intro z; have := (D.ent y).mpr (.inl z); rw [he] at this; cases this
    · intro z; have := (D.ent y).mpr (.inr z); rw [he] at this; cases this
  refine ⟨by rw [List.length_set]; exact D.len, ?_, fun v => ?_, fun u hu v hv => ?_, ⟨Nat.le_refl _, ?_, by simp, ?_, D.lv⟩, D.q, ?_⟩
  · have nd : (o ++ x :: nodes b).Nodup := D.nd
    obtain ⟨n1, n2, n3⟩ := List.nodup_append.mp nd
    refine List.nodup_append.mpr ⟨n1, List.nodup_cons.mpr ⟨hno.2, n2⟩, fun a ha d hd => ?_⟩
    rcases List.mem_cons.mp hd with z | z
    · rw [show d = y from z]
      exact fun z => hno.1 (z ▸ ha)
    · exact n3 a ha d z
  · rw [set_true, D.ent]
    constructor
    · rintro (⟨rfl, _⟩ | z | z)
      · exact .inr List.mem_cons_self
      · exact .inl z
      · exact .inr (List.mem_cons_of_mem _ z)
    · rintro (z | z)
      · exact .inr (.inl z)
      · rcases List.mem_cons.mp z with z | z
        · exact .inl ⟨z, hl⟩
        · exact .inr (.inr z)
  · rcases D.cl u hu v hv with z | z
    · exact .inl z
    · exact .inr (List.mem_cons_of_mem _ z)
  · rw [List.take_length]
    exact D.cl
  · intro z hz
    have xy : Rch S x y := .one (List.mem_of_getElem? hy)
    rcases List.mem_cons.mp hz with hz | hz
    · rw [show z = x from hz]; exact xy
    · exact (h4 z hz).trans xy
  · intro t ht
    rcases List.mem_cons.mp ht with rfl | ht
    · exact ⟨Nat.zero_le _, fun j v h => absurd h (Nat.not_lt_zero _)⟩
    · have mono : ∀ v, e[v]? = some true → (e.set y true)[v]? = some true := fun v hv => set_true.mpr (.inr hv)
      rcases List.mem_cons.mp ht with rfl | ht
      · refine ⟨(List.getElem?_eq_some_iff.mp hy).1, fun j v hj hv => ?_⟩
        by_cases z : j = i
        · subst z
          rw [hy] at hv
          cases hv
          exact set_true.mpr (.inl ⟨rfl, hl⟩)
        · exact mono _ ((D.fl _ List.mem_cons_self).2 j v (by have : j < i + 1 := hj; show j < i; omega) hv)
      · have := D.fl t (List.mem_cons_of_mem _ ht)
        exact ⟨this.1, fun j v hj hv => mono _ (this.2 j v hj hv)⟩
/-! what is left to do -/
def unw (S : Nat → List Nat) : Nat → List Bool → Nat
  | _, [] => 0
  | i, b :: e => (if b = true then 0 else (S i).length + 1) + unw S (i + 1) e
theorem unw_set {S : Nat → List Nat} : ∀ {e : List Bool} {i j : Nat}, e[j]? = some false → unw S i (e.set j true) + ((S (i + j)).length + 1) = unw S i e
  | [], i, j, h => by simp at h
  | b :: e, i, 0, h => by
    have : b = false := by simpa using h
    subst this
    show (if true = true then 0 else _) + unw S (i + 1) e + _ = (if false = true then 0 else _) + unw S (i + 1) e
    rw [if_pos rfl, if_neg Bool.false_ne_true, show i + 0 = i from rfl]
    omega
  | b :: e, i, j + 1, h => by
    have h' : e[j]? = some false := by simpa using h
    have := unw_set (S := S) (i := i + 1) h'
    rw [show i + 1 + j = i + (j + 1) by omega] at this
    show _ + unw S (i + 1) (e.set j true) + _ = _ + unw S (i + 1) e
    omega
def lft (S : Nat → List Nat) : List Fr → Nat
  | [] => 0
  | (x, i, _) :: b => ((S x).length + 1 - i) + lft S b
/-! the end of it -/
structure Fin (n : Nat) (S : Nat → List Nat) (o : List Nat) : Prop where
  nd : o.Nodup
  al : ∀ v, v ∈ o ↔ v < n
  q : Qf S o
theorem Dfs.end {n : Nat} {S : Nat → List Nat} {e : List Bool} {o : List Nat} (D : Dfs n S e o []) (h : ∀ v, v < n → e[v]? = some true) : Fin n S o := by
  refine ⟨by have := D.nd; simpa [nodes] using this, fun v => ⟨fun z => ?_, fun z => ?_⟩, D.q⟩
  · have := (D.ent v).mpr (.inl z)
    have := (List.getElem?_eq_some_iff.mp this).1
    rw [D.len] at this
    exact this
  · rcases (D.ent v).mp (h v z) with k | k
    · exact k
    · cases k
end K23
namespace K23
open PySem PySem.Spec PyProof.Rows L2 He TL EL
section
variable {P : Program} {w : World} {K : PySem.W.Frag} {mg : Str → Option Value} {base : Heap}
/-! a list of lists of numbers -/
abbrev nv (n : Nat) : V := .int (n : Nat)
def Gr (K : PySem.W.Frag) (H : Hp) (af : Addr) (G : List (List Nat)) : Prop := ∃ as : List Addr, H af = some (.lst (as.map V.ref)) ∧ as.length = G.length ∧ ∀ (i : Nat) (a : Addr) (l : List Nat), as[i]? = some a → G[i]? = some l → H a = some (.lst (l.map nv))
theorem Gr.same {H H' : Hp} {af : Addr} {G : List (List Nat)} (g : Gr K H af G) (s : Same H H') : Gr K H' af G := by
  obtain ⟨as, h1, h2, h3⟩ := g
  exact ⟨as, s _ _ h1, h2, fun i a l h k => s _ _ (h3 i a l h k)⟩
def sc (G : List (List Nat)) (u : Nat) : List Nat := (G[u]?).getD []
def Gok (G : List (List Nat)) : Prop := ∀ l ∈ G, ∀ v ∈ l, v < G.length
theorem sc_at {G : List (List Nat)} {u : Nat} {l : List Nat} (h : G[u]? = some l) : sc G u = l := by
  unfold sc
  rw [h]
  rfl
theorem same_upN {H H' : Hp} {a : Addr} {o : HO} (s : Same H H') (n : H a = none) : Same H (upd H' a o) := fun b ob hb => by
  rw [upd_ne (by intro z; rw [z, n] at hb; cases hb)]
  exact s _ _ hb
abbrev frD (t : Fr) : PyData := .tuple [.int (t.1 : Nat), .int (t.2.1 : Nat)]
theorem pds_fr (st : List Fr) : Pds (st.map frD) := fun d hd => by
  obtain ⟨t, _, rfl⟩ := List.mem_map.mp hd
  exact ⟨rfl, rfl, by show 1 ≤ 16; decide⟩
def trD (st : List Fr) : List PyData := (st.reverse).map frD
theorem mapAt {α β : Type} {f : α → β} {l : List α} {i : Nat} {a : α} (h : l[i]? = some a) : (l.map f)[i]? = some (f a) := by rw [List.getElem?_map, h]; rfl
theorem ixNn {n j : Nat} (hj : j < n) : ixN n (j : Int) = some j := by
  unfold ixN
  rw [if_pos (by omega), if_pos (by omega)]
  simp
theorem DpAll.unsnoc {H : Hp} {d : PyData} : ∀ {ds : List PyData} {vs : List V}, DpAll K H vs (ds ++ [d]) → ∃ us v, vs = us ++ [v] ∧ DpAll K H us ds ∧ Dp K H v d
  | [], _, .cons a .nil => ⟨[], _, rfl, .nil, a⟩
  | _ :: ds, _, .cons a b => by
    obtain ⟨us, v, rfl, h1, h2⟩ := DpAll.unsnoc (ds := ds) b
    exact ⟨_ :: us, v, rfl, .cons a h1, h2⟩
theorem eqv_nil (ds : List PyData) : PyData.eqv (.list ds) (.list []) = ds.isEmpty := by cases ds <;> rfl
theorem trD_cons (t : Fr) (b : List Fr) : trD (t :: b) = trD b ++ [frD t] := by
  unfold trD
  rw [List.reverse_cons, List.map_append]
  rfl
theorem pds_tr (st : List Fr) : Pds (trD st) := pds_fr _
theorem trD_len (st : List Fr) : (trD st).length = st.length := by
  unfold trD
  rw [List.length_map, List.length_reverse]
theorem nodup_lt : ∀ {n : Nat} {l : List Nat}, l.Nodup → (∀ v ∈ l, v < n) → l.length ≤ n
  | 0, [], _, _ => Nat.le_refl _
  | 0, v :: _, _, h => absurd (h v List.mem_cons_self) (Nat.not_lt_zero _)
  | n + 1, l, nd, h => by
    have e : l.length ≤ (l.erase n).length + 1 := by
      by_cases hm : n ∈ l
      · rw [List.length_erase_of_mem hm]; omega
      · rw [List.erase_of_not_mem hm]; omega
    have := nodup_lt (n := n) (l := l.erase n) (nd.erase n) fun v hv => by
      have h1 := h v (List.mem_of_mem_erase hv)
      have h2 : v ≠ n := fun z => by
        subst z
        exact (List.Nodup.not_mem_erase nd) hv
      omega
    omega
theorem Dfs.bnd {n : Nat} {S : Nat → List Nat} {e : List Bool} {o : List Nat} {st : List Fr} (D : Dfs n S e o st) : o.length + st.length ≤ n ∧ (∀ v ∈ o, v < n) ∧ ∀ v ∈ nodes st, v < n := by
  have k : ∀ v, v ∈ o ∨ v ∈ nodes st → v < n := fun v h => by
    have := (List.getElem?_eq_some_iff.mp ((D.ent v).mpr h)).1
    rw [D.len] at this
    exact this
  refine ⟨?_, fun v h => k v (.inl h), fun v h => k v (.inr h)⟩
  have := nodup_lt D.nd fun v h => k v (List.mem_append.mp h)
  rw [List.length_append] at this
  unfold nodes at this
  rw [List.length_map] at this
  exact this
/-! finish_order -/
def spFin (K : PySem.W.Frag) : Sp := fun vs H Q _ => ∃ af G, vs = [.ref af] ∧ Gr K H af G ∧ Gok G ∧ G.length ≤ 100 ∧
  ∀ p o H', H p = none → Same H H' → H' p = some (.lst (o.map nv)) → Fin G.length (sc G) o → Q (.ref p) H'
theorem d_finish_order (T : Txt K mg) : Dn P w K mg base CX0 1 "finish_order" (spFin K) := by
  obtain ⟨fd, F⟩ := T.f_finish_order
  refine dnN T.g_finish_order F (fun _ _ _ _ _ _ us hl => match us, hl with | [_], _ => rfl) sc_finish_order (fun vs H Q E h => ?_) (fun cdv A outer s H vs Q E hr h => ?_)
  · obtain ⟨af, G, rfl, _⟩ := h
    rfl
  · obtain ⟨af, G, rfl, hG, hok, hn, hQ⟩ := h
    refine ⟨_, PSs.nox (pss_cons (ps_setLc (i := 1) (own := [("node", 2)]) (tt := tYes) (by rfl) sc_finish_order.nd rfl rfl (sw_true rfl rfl rfl (by decide +kernel)) (pi_list (pv 0)) (blkOk_by (own := [("node", 2)]) (N := ["after", "entered", "node", "order", "start", "trail", "at", "other"]) (sc := defScope s_finish_order) (by decide +kernel)) (fun _ _ _ _ _ => (pg_name (i := 2) sc_finish_order.nd rfl (.inl rfl))) (fun _ _ _ _ _ => pts_nil) (fun _ _ _ _ _ => pe_bl))
      (pss_cons (ps_set (i := 3) sc_finish_order.nd rfl (.inl rfl) (pe_lst pa_nil))
      (pss_cons (ps_for PassesOwn.never rfl (pi_range1 (by rfl) T.z_range (pa_cons (pe_callB call_len_seq (by rfl) T.z_len (by decide +kernel) (pa_cons (pv 0) pa_nil)) pa_nil)) (pg_name (i := 4) sc_finish_order.nd rfl (.inl rfl))
      (pss_cons (ps_if (pt_val (pe_ix ix_list (pv 1) (pv 4) (fun _ _ => rfl))) (pss_one ps_continue) pss_nil)
      (pss_cons (ps_asg pe_bl (pg_sub (pv 1) (pv 4) set_list))
      (pss_cons (ps_set (i := 5) sc_finish_order.nd rfl (.inl rfl) (pe_lst (pa_cons (pe_tup (pa_cons (pv 4) (pa_cons pe_int pa_nil))) pa_nil)))
      (pss_one (ps_while PassesOwn.never (pt_cmpR (op_neD hr.units) (pv 5) (pe_lst pa_nil) (nomark _))
      (pss_cons (ps_asg (pe_bm0 PySem.F.plainAttrs_list PySem.F.slot_list_pop PySem.F.type_list_pop mt_pop (pv 5)) (pg_tup rfl (pgs_cons (pg_name (i := 2) sc_finish_order.nd rfl (.inl rfl)) (pgs_cons (pg_name (i := 6) sc_finish_order.nd rfl (.inl rfl)) pgs_nil))))
      (pss_cons (ps_if (pt_cmpR op_eq (pv 6) (pe_callB call_len_seq (by rfl) T.z_len (by decide +kernel) (pa_cons (pe_ix ix_list (pv 0) (pv 2) (fun _ _ => rfl)) pa_nil)) (nomark _)) (pss_cons (ps_expr (pe_bm PySem.F.plainAttrs_list PySem.F.slot_list_append PySem.F.type_list_append mt_append (pv 3) (pa_cons (pv 2) pa_nil)))
      (pss_one ps_continue)) pss_nil)
      (pss_cons (ps_expr (pe_bm PySem.F.plainAttrs_list PySem.F.slot_list_append PySem.F.type_list_append mt_append (pv 5) (pa_cons (pe_tup (pa_cons (pv 2) (pa_cons (pe_op op_add (pv 6) pe_int) pa_nil))) pa_nil)))
      (pss_cons (ps_set (i := 7) sc_finish_order.nd rfl (.inl rfl) (pe_ix ix_list (pe_ix ix_list (pv 0) (pv 2) (fun _ _ => rfl)) (pv 6) (fun _ _ => rfl)))
      (pss_one (ps_if (pt_not (pt_val (pe_ix ix_list (pv 1) (pv 7) (fun _ _ => rfl)))) (pss_cons (ps_asg pe_bl (pg_sub (pv 1) (pv 7) set_list))
      (pss_one (ps_expr (pe_bm PySem.F.plainAttrs_list PySem.F.slot_list_append PySem.F.type_list_append mt_append (pv 5) (pa_cons (pe_tup (pa_cons (pv 7) (pa_cons pe_int pa_nil))) pa_nil))))) pss_nil))))))))))))
      (pss_one (ps_ret (pv 3)))))), ?_⟩
    obtain ⟨as, ha, hla, _⟩ := id hG
    refine ⟨_, rfl, _, rfl, ⟨_, SqL.of ha⟩, fun en ne => ?_⟩
    have nea : en ≠ af := fun z => by rw [z, ha] at ne; cases ne
    refine lc_it (walk_list (xs := as.map V.ref)) (fun i H' => H' = upd H en (.lst ((List.replicate i false).map V.bl))) rfl (fun i H' _ h => ?_) ?_ ?_
    · rw [h]
      exact SqL.of (by rw [upd_ne (Ne.symm nea)]; exact ha)
    · rintro i v H' H'' hi e ⟨rfl, hv⟩
      subst e
      refine ⟨rfl, tYes_of ⟨_, upd_same, ?_, ?_⟩⟩
      · rw [List.length_map, List.length_replicate]
        rw [List.length_map, hla] at hi
        exact Nat.lt_of_lt_of_le hi (Nat.le_trans hn (by decide))
      · rw [upd_upd, List.replicate_succ', List.map_append]
        rfl
    · rintro H1 e1
      have s1 : Same H H1 := e1 ▸ same_upd ne
      have en1 : H1 en = some (.lst ((List.replicate G.length false).map V.bl)) := by rw [e1, List.length_map, hla]; exact upd_same
      clear e1
      refine ⟨(by show 0 ≤ sizeLine; decide), fun od nod => ?_⟩
      generalize eH2 : upd H1 od _ = H2
      have s2 : Same H1 H2 := eH2 ▸ same_upd nod
      have od2 : H2 od = some _ := eH2 ▸ upd_same
      have noe : od ≠ en := fun z => by rw [z, en1] at nod; cases nod
      have nod0 : H od = none := by
        cases hh : H od with
        | none => rfl
        | some ob => rw [s1 _ _ hh] at nod; cases nod
      have en2 := s2 _ _ en1
      have s02 := s1.trans s2
      refine ⟨_, rfl, _, _, rfl, .inl (SqL.of (s02 _ _ ha)), as.length, (by rw [List.length_map]), (by omega), (by omega), for_range (n := as.length) (fun i σ H' => Same H H' ∧ ∃ (e : List Bool) (o : List Nat) (o2 o4 o5 o6 o7 : Option V), σ = [some (.ref af), some (.ref en), o2, some (.ref od), o4, o5, o6, o7] ∧ H' en = some (.lst (e.map V.bl)) ∧ H' od = some (.lst (o.map nv)) ∧ Dfs G.length (sc G) e o [] ∧ ∀ v, v < i → e[v]? = some true) ⟨s02, _, [], _, _, _, _, _, rfl, en2, od2, .init, fun v h => absurd h (Nat.not_lt_zero _)⟩ ?_ ?_⟩
      · rintro i σ H3 hi ⟨s03, e, o, o2, o4, o5, o6, o7, rfl, en3, od3, D, hv⟩
        show gName 4 (V.int (0 + (i : Int))) _ _ _
        rw [Int.zero_add]
        have hiG : i < G.length := by omega
        obtain ⟨b, hb⟩ : ∃ b, e[i]? = some b := ⟨_, List.getElem?_eq_getElem (by rw [D.len]; exact hiG)⟩
        refine ⟨_, rfl, _, rfl, _, _, _, _, rfl, rfl, SqL.of en3, atI_nat (mapAt hb), ?_⟩
        cases b with
        | true => exact ⟨_, rfl, iteT ⟨s03, e, o, _, _, _, _, _, rfl, en3, od3, D, fun v h => by
            by_cases z : v = i
            · rw [z]; exact hb
            · exact hv v (by omega)⟩⟩
        | false =>
          refine ⟨_, rfl, iteF ?_⟩
          have hel : i < e.length := by rw [D.len]; exact hiG
          refine ⟨_, rfl, _, rfl, en, _, _, i, rfl, rfl, en3, ixNn (by rw [List.length_map]; exact hel), ?_⟩
          generalize eH4 : upd H3 en _ = H4
          have en4 : H4 en = some (.lst ((e.set i true).map V.bl)) := by rw [← eH4, List.map_set]; exact upd_same
          have s04 : Same H H4 := eH4 ▸ same_upN s03 ne
          have od4 : H4 od = some (.lst (o.map nv)) := by rw [← eH4, upd_ne noe]; exact od3
          clear eH4
          refine ⟨_, rfl, (by show 2 ≤ sizeLine; decide), fun t nt => ?_⟩
          generalize eH5 : upd H4 t _ = H5
          have s5 : Same H4 H5 := eH5 ▸ same_upd nt
          have t5 : H5 t = some _ := eH5 ▸ upd_same
          refine ⟨(by show 1 ≤ sizeLine; decide), fun tr ntr => ?_⟩
          generalize eH6 : upd H5 tr _ = H6
          have s6 : Same H5 H6 := eH6 ▸ same_upd ntr
          have tr6 : H6 tr = some _ := eH6 ▸ upd_same
          have s46 := s5.trans s6
          have s06 := s04.trans s46
          have en6 := s46 _ _ en4
          have od6 := s46 _ _ od4
          have t6 := s6 _ _ t5
          have n0 : H tr = none := by
            cases hh : H tr with
            | none => rfl
            | some ob => rw [s5 _ _ (s04 _ _ hh)] at ntr; cases ntr
          have nre : tr ≠ en := fun z => by rw [z, s5 _ _ en4] at ntr; cases ntr
          have nro : tr ≠ od := fun z => by rw [z, s5 _ _ od4] at ntr; cases ntr
          have D4 := D.start hb
          refine ⟨fun m σ H' => Same H H' ∧ ∃ (e : List Bool) (o : List Nat) (st : List Fr) (vs : List V) (o2 o6 o7 : Option V), m = lft (sc G) st + unw (sc G) 0 e ∧ σ = [some (.ref af), some (.ref en), o2, some (.ref od), some (nv i), some (.ref tr), o6, o7] ∧ H' en = some (.lst (e.map V.bl)) ∧ H' od = some (.lst (o.map nv)) ∧ H' tr = some (.lst vs) ∧ DpAll K H' vs (trD st) ∧ Dfs G.length (sc G) e o st ∧ ∀ v, v < i + 1 → e[v]? = some true, ⟨_, s06, _, _, _, _, _, _, _, rfl, rfl, en6, od6, tr6, .cons (.tup (SqT.of t6) (.cons (.int _) (.cons (.int _) .nil))) .nil, D4, fun v h => ?_⟩, ?_⟩
          · refine set_true.mpr ?_
            by_cases z : v = i
            · exact .inl ⟨z, hel⟩
            · exact .inr (hv v (by omega))
          · clear s03 en3 od3 D hv hb hel en4 s04 od4 nt ntr t5 tr6 s46 s06 en6 od6 t6 D4 s5 s6
            rintro m σ H3 ⟨s03, e, o, st, vs, o2, o6, o7, rfl, rfl, en3, od3, tr3, hvs, D, hv⟩
            refine ⟨_, rfl, (by show 0 ≤ sizeLine; decide), fun p np => ?_⟩
            generalize eH4 : upd H3 p _ = H4
            have s4 : Same H3 H4 := eH4 ▸ same_upd np
            have p4 : H4 p = some _ := eH4 ▸ upd_same
            have en4 := s4 _ _ en3
            have od4 := s4 _ _ od3
            have tr4 := s4 _ _ tr3
            have s04 := s03.trans s4
            have hvs := DpAll.same s4 hvs
            refine ⟨.list (trD st), .list [], .lst (SqL.of tr4) hvs, .lst (SqL.of p4) .nil, ?_, ?_, _, rfl, ?_⟩
            · exact Pds.shaped (pds_tr st)
            · rfl
            · rw [show PyData.eqv (.list (trD st)) (.list []) = (trD st).isEmpty from eqv_nil _]
              cases st with
              | nil =>
                refine if_neg_of rfl ⟨s04, e, o, o2, _, _, o6, o7, rfl, en4, od4, D, fun v h => hv v h⟩
              | cons fr b =>
                obtain ⟨x, k, c⟩ := fr
                have hxn : x < G.length := D.bnd.2.2 x List.mem_cons_self
                obtain ⟨l, hl⟩ : ∃ l, G[x]? = some l := ⟨_, List.getElem?_eq_getElem hxn⟩
                have hS : sc G x = l := sc_at hl
                obtain ⟨ax, hax⟩ : ∃ ax, as[x]? = some ax := ⟨_, List.getElem?_eq_getElem (by omega)⟩
                obtain ⟨_, ha0, _, hal⟩ := id hG
                obtain rfl : as = _ := by
                  have := ha.symm.trans ha0
                  injection this with this
                  injection this with this
                  exact (List.map_inj_right (fun x y z => by cases z; rfl)).mp this
                have hax0 := hal x ax l hax hl
                rw [trD_cons] at hvs
                obtain ⟨us, v, rfl, hus, hv0⟩ := DpAll.unsnoc hvs
                obtain ⟨t, rfl, ht⟩ := dp_val (x := ((x : Int), (k : Int))) hv0
                refine if_pos_of (by rw [trD_cons]; cases trD b <;> rfl) ⟨_, fun σ' H2 hN => hN, ?_⟩
                refine ⟨_, rfl, .inl ⟨rfl, _, SqL.of tr4⟩, tr, _, _, rfl, rfl, tr4, (by rw [List.length_append, List.length_singleton, Nat.add_sub_cancel, List.getElem?_append_right (Nat.le_refl _), Nat.sub_self]; rfl), ?_⟩
                rw [List.dropLast_concat]
                generalize eH5 : upd H4 tr _ = H5
                have tr5 : H5 tr = some (.lst us) := eH5 ▸ upd_same
                have m5 : Md [tr] H4 H5 := eH5 ▸ Md.upd tr4 rfl (by simp)
                have s05 : Same H H5 := eH5 ▸ same_upN s04 n0
                have en5 := m5.out _ _ en4 (by simp [Ne.symm nre])
                have od5 := m5.out _ _ od4 (by simp [Ne.symm nro])
                have hus := m5.dpAll (pds_tr b).nl hus
                have ht5 := m5.sqT ht
                refine ⟨_, _, rfl, ht5, rfl, _, _, rfl, _, _, rfl, rfl, ?_⟩
                refine ⟨_, rfl, _, rfl, _, rfl, _, _, _, _, rfl, rfl, SqL.of (s05 _ _ ha), atI_nat (mapAt hax), _, _, rfl, .inl (SqL.of (s05 _ _ hax0)), rfl, _, rfl, ?_⟩
                have hkl := (D.fl _ List.mem_cons_self).1
                rw [hS] at hkl
                have hkl : k ≤ l.length := hkl
                by_cases hk : k = l.length
                · refine if_pos_of (by show decide (V.int ((k : Nat) : Int) = V.int ((l.map nv).length : Nat)) = true; rw [List.length_map, hk]; exact decide_eq_true rfl) ?_
                  have hb := D.bnd.1
                  refine ⟨_, rfl, .inl ⟨rfl, _, SqL.of od5⟩, _, rfl, od, _, _, rfl, rfl, od5, (by rw [List.length_map]; exact Nat.lt_of_le_of_lt (Nat.le_trans (Nat.le_trans (Nat.le_add_right _ _) hb) hn) (by decide)), ?_⟩
                  generalize eH6 : upd H5 od _ = H6
                  have od6 : H6 od = some (.lst ((o ++ [x]).map nv)) := by rw [← eH6, List.map_append]; exact upd_same
                  have m6 : Md [od] H5 H6 := eH6 ▸ Md.upd od5 rfl (by simp)
                  have s06 : Same H H6 := eH6 ▸ same_upN s05 nod0
                  refine ⟨lft (sc G) b + unw (sc G) 0 e, ?_, s06, e, o ++ [x], b, us, _, _, o7, rfl, rfl, m6.out _ _ en5 (by simp [Ne.symm noe]), od6, m6.out _ _ tr5 (by simp [nro]), m6.dpAll (pds_tr b).nl hus, ?_, hv⟩
                  · show lft (sc G) b + unw (sc G) 0 e < ((sc G x).length + 1 - k) + lft (sc G) b + unw (sc G) 0 e
                    rw [hS]
                    omega
                  · have D' : Dfs G.length (sc G) e o ((x, (sc G x).length, c) :: b) := by rw [hS, ← hk]; exact D
                    exact D'.fin
                · refine if_neg_of (by show decide (V.int ((k : Nat) : Int) = V.int ((l.map nv).length : Nat)) = false; rw [List.length_map]; exact decide_eq_false (fun z => hk (by have := V.int.inj z; omega))) ?_
                  have hlt : k < l.length := by omega
                  have hb := D.bnd.1
                  have lus : us.length = b.length := by rw [DpAll.length hus, trD_len]
                  refine ⟨_, rfl, .inl ⟨rfl, _, SqL.of tr5⟩, _, rfl, _, rfl, _, _, rfl, rfl, (by show 2 ≤ sizeLine; decide), fun t2 nt2 => ?_⟩
                  generalize eH6 : upd H5 t2 _ = H6
                  have s6 : Same H5 H6 := eH6 ▸ same_upd nt2
                  have t26 : H6 t2 = some _ := eH6 ▸ upd_same
                  refine ⟨tr, _, _, rfl, rfl, s6 _ _ tr5, (by rw [lus]; exact Nat.lt_of_le_of_lt (Nat.le_trans (by rw [List.length_cons] at hb; omega : b.length ≤ G.length) hn) (by decide)), ?_⟩
                  generalize eH7 : upd H6 tr _ = H7
                  have tr7 : H7 tr = some (.lst (us ++ [.ref t2])) := eH7 ▸ upd_same
                  have m7 : Md [tr] H6 H7 := eH7 ▸ Md.upd (s6 _ _ tr5) rfl (by simp)
                  have s07 : Same H H7 := eH7 ▸ same_upN (s05.trans s6) n0
                  have en7 := m7.out _ _ (s6 _ _ en5) (by simp [Ne.symm nre])
                  have od7 := m7.out _ _ (s6 _ _ od5) (by simp [Ne.symm nro])
                  have h27 : Dp K H7 (.ref t2) (frD (x, k + 1, c)) := .tup (m7.sqT (SqT.of t26)) (.cons (.int _) (.cons (.int _) .nil))
                  have hus7 := DpAll.snoc h27 (m7.dpAll (pds_tr b).nl (DpAll.same s6 hus))
                  rw [← trD_cons] at hus7
                  obtain ⟨y, hy⟩ : ∃ y, l[k]? = some y := ⟨_, List.getElem?_eq_getElem hlt⟩
                  have hyn : y < G.length := hok l (List.mem_of_getElem? hl) y (List.mem_of_getElem? hy)
                  obtain ⟨bb, hbb⟩ : ∃ bb, e[y]? = some bb := ⟨_, List.getElem?_eq_getElem (by rw [D.len]; exact hyn)⟩
                  have hyS : (sc G x)[k]? = some y := by rw [hS]; exact hy
                  refine ⟨_, rfl, _, rfl, _, _, _, _, rfl, rfl, SqL.of (s07 _ _ ha), atI_nat (mapAt hax), _, rfl, _, _, _, _, rfl, rfl, SqL.of (s07 _ _ hax0), atI_nat (mapAt hy), ?_⟩
                  refine ⟨_, rfl, _, rfl, _, _, _, _, rfl, rfl, SqL.of en7, atI_nat (mapAt hbb), _, rfl, ?_⟩
                  cases bb with
                  | true =>
                    refine iteF ⟨lft (sc G) ((x, k + 1, c) :: b) + unw (sc G) 0 e, ?_, s07, e, o, _, _, _, _, _, rfl, rfl, en7, od7, tr7, hus7, D.go hyS hbb, hv⟩
                    show ((sc G x).length + 1 - (k + 1)) + lft (sc G) b + unw (sc G) 0 e < ((sc G x).length + 1 - k) + lft (sc G) b + unw (sc G) 0 e
                    rw [hS]
                    omega
                  | false =>
                    refine iteT ?_
                    have hel : y < e.length := by rw [D.len]; exact hyn
                    refine ⟨_, rfl, _, rfl, en, _, _, y, rfl, rfl, en7, ixNn (by rw [List.length_map]; exact hel), ?_⟩
                    generalize eH8 : upd H7 en _ = H8
                    have en8 : H8 en = some (.lst ((e.set y true).map V.bl)) := by rw [← eH8, List.map_set]; exact upd_same
                    have m8 : Md [en] H7 H8 := eH8 ▸ Md.upd en7 rfl (by simp)
                    have s08 : Same H H8 := eH8 ▸ same_upN s07 ne
                    have tr8 := m8.out _ _ tr7 (by simp [nre])
                    have od8 := m8.out _ _ od7 (by simp [noe])
                    have hus8 := m8.dpAll (pds_tr _).nl hus7
                    refine ⟨_, rfl, .inl ⟨rfl, _, SqL.of tr8⟩, _, rfl, (by show 2 ≤ sizeLine; decide), fun t3 nt3 => ?_⟩
                    generalize eH9 : upd H8 t3 _ = H9
                    have s9 : Same H8 H9 := eH9 ▸ same_upd nt3
                    have t39 : H9 t3 = some _ := eH9 ▸ upd_same
                    have D' := D.push hyS hbb
                    have hb' := D'.bnd.1
                    refine ⟨tr, _, _, rfl, rfl, s9 _ _ tr8, (by rw [List.length_append, lus]; exact Nat.lt_of_le_of_lt (Nat.le_trans (by rw [List.length_cons] at hb'; simp only [List.length_cons, List.length_nil] at hb' ⊢; omega : b.length + [V.ref t2].length ≤ G.length) hn) (by decide)), ?_⟩
                    generalize eHa : upd H9 tr _ = Ha
                    have tra : Ha tr = some (.lst (us ++ [.ref t2] ++ [.ref t3])) := eHa ▸ upd_same
                    have ma : Md [tr] H9 Ha := eHa ▸ Md.upd (s9 _ _ tr8) rfl (by simp)
                    have s0a : Same H Ha := eHa ▸ same_upN (s08.trans s9) n0
                    have h3a : Dp K Ha (.ref t3) (frD (y, 0, o.length)) := .tup (ma.sqT (SqT.of t39)) (.cons (.int _) (.cons (.int _) .nil))
                    have husa := DpAll.snoc h3a (ma.dpAll (pds_tr _).nl (DpAll.same s9 hus8))
                    rw [← trD_cons] at husa
                    refine ⟨lft (sc G) ((y, 0, o.length) :: (x, k + 1, c) :: b) + unw (sc G) 0 (e.set y true), ?_, s0a, _, o, _, _, _, _, _, rfl, rfl, ma.out _ _ (s9 _ _ en8) (by simp [Ne.symm nre]), ma.out _ _ (s9 _ _ od8) (by simp [Ne.symm nro]), tra, husa, D', fun v h => set_true.mpr (.inr (hv v h))⟩
                    have hw := unw_set (S := sc G) (i := 0) hbb
                    rw [Nat.zero_add] at hw
                    show (((sc G y).length + 1 - 0) + (((sc G x).length + 1 - (k + 1)) + lft (sc G) b)) + unw (sc G) 0 (e.set y true) < ((sc G x).length + 1 - k) + lft (sc G) b + unw (sc G) 0 e
                    have hx : (sc G x).length = l.length := by rw [hS]
                    omega
      · rintro σ H3 ⟨s03, e, o, o2, o4, o5, o6, o7, rfl, en3, od3, D, hv⟩
        exact ⟨_, rfl, hQ od o H3 nod0 s03 od3 (D.end fun v h => hv v (by omega))⟩
end
end K23
namespace K23
/-! the parts -/
def pva (p : List Int) (v : Nat) : Int := (p[v]?).getD (-1)
theorem pv_at {p : List Int} {v : Nat} {x : Int} (h : p[v]? = some x) : pva p v = x := by
  unfold pva
  rw [h]
  rfl
theorem pv_lt {p : List Int} {v : Nat} (h : 0 ≤ pva p v) : v < p.length := by
  unfold pva at h
  cases e : p[v]? with
  | none => rw [e] at h; exact absurd h (by decide)
  | some x => exact (List.getElem?_eq_some_iff.mp e).1
theorem pv_get {p : List Int} {v : Nat} (h : v < p.length) : p[v]? = some (pva p v) := by
  unfold pva
  rw [List.getElem?_eq_getElem h]
  rfl
theorem pv_set {p : List Int} {j v : Nat} {x : Int} (h : j < p.length) : pva (p.set j x) v = if v = j then x else pva p v := by
  unfold pva
  rw [List.getElem?_set]
  by_cases e : v = j
  · subst e
    rw [if_pos rfl, if_pos rfl, if_pos h]
    rfl
  · rw [if_neg e, if_neg (fun z => e z.symm)]
structure Pt (n : Nat) (S : Nat → List Nat) (p : List Int) (c : Nat) : Prop where
  len : p.length = n
  lo : ∀ v, -1 ≤ pva p v ∧ pva p v < c
  cls : ∀ u v, 0 ≤ pva p u → 0 ≤ pva p v → (pva p u = pva p v ↔ Rch S u v ∧ Rch S v u)
  up : ∀ u v, v ∈ S u → 0 ≤ pva p v → 0 ≤ pva p u ∧ pva p u ≤ pva p v
  full : ∀ k : Nat, k < c → ∃ v, pva p v = k
theorem pv_rep {n v : Nat} : pva (List.replicate n (-1)) v = -1 := by
  unfold pva
  rw [List.getElem?_replicate]
  split <;> rfl
theorem Pt.init {n : Nat} {S : Nat → List Nat} : Pt n S (List.replicate n (-1)) 0 := by
  refine ⟨by simp, fun v => by rw [pv_rep]; decide, fun u v h => by rw [pv_rep] at h; exact absurd h (by decide), fun u v _ h => by rw [pv_rep] at h; exact absurd h (by decide), fun k h => absurd h (Nat.not_lt_zero _)⟩
theorem Pt.back {n : Nat} {S : Nat → List Nat} {p : List Int} {c : Nat} (P : Pt n S p c) {u v : Nat} (h : Rch S u v) : 0 ≤ pva p v → 0 ≤ pva p u ∧ pva p u ≤ pva p v := by
  induction h with
  | refl => exact fun h => ⟨h, Int.le_refl _⟩
  | step a _ ih =>
    intro h
    obtain ⟨h1, h2⟩ := ih h
    obtain ⟨h3, h4⟩ := P.up _ _ a h1
    exact ⟨h3, Int.le_trans h4 h2⟩
/-- the flood that takes one part -/
structure Fl (n : Nat) (S : Nat → List Nat) (p0 : List Int) (c s : Nat) (p : List Int) (W : List Nat) (nd : Nat) (rest : List Nat) : Prop where
  len : p.length = n
  old : ∀ v, pva p v = pva p0 v ∨ (pva p0 v < 0 ∧ pva p v = c)
  rs : ∀ v, pva p v = c → Rch S v s
  src : pva p s = c
  wl : ∀ v ∈ W, pva p v = c
  dn : ∀ v u, pva p v = c → v ∈ S u → v ∈ W ∨ 0 ≤ pva p u ∨ (v = nd ∧ u ∈ rest)
theorem Fl.init {n : Nat} {S : Nat → List Nat} {p0 : List Int} {c s : Nat} (P : Pt n S p0 c) (hs : s < n) (h : pva p0 s < 0) : Fl n S p0 c s (p0.set s c) [s] 0 [] := by
  have hl : s < p0.length := by rw [P.len]; exact hs
  have nc : ∀ v, pva p0 v ≠ c := fun v z => by have := (P.lo v).2; omega
  have key : ∀ v, pva (p0.set s (c : Int)) v = c → v = s := fun v hv => by
    rw [pv_set hl] at hv
    by_cases e : v = s
    · exact e
    · rw [if_neg e] at hv; exact absurd hv (nc v)
  refine ⟨by rw [List.length_set]; exact P.len, fun v => ?_, fun v hv => ?_, by rw [pv_set hl, if_pos rfl], fun v hv => ?_, fun v u hv _ => ?_⟩
  · rw [pv_set hl]
    by_cases e : v = s
    · rw [if_pos e, e]; exact .inr ⟨h, rfl⟩
    · rw [if_neg e]; exact .inl rfl
  · rw [key v hv]; exact .refl _
  · rw [List.mem_singleton.mp hv, pv_set hl, if_pos rfl]
  · rw [key v hv]; exact .inl List.mem_cons_self
/-- the last of W is taken out -/
theorem Fl.pop {n : Nat} {S : Nat → List Nat} {p0 : List Int} {c s : Nat} {p : List Int} {W : List Nat} {x nd : Nat} {B : List Nat} (F : Fl n S p0 c s p (W ++ [x]) nd []) (hB : ∀ u, x ∈ S u → u ∈ B) : Fl n S p0 c s p W x B := by
  refine ⟨F.len, F.old, F.rs, F.src, fun v hv => F.wl v (List.mem_append_left _ hv), fun v u hv hu => ?_⟩
  rcases F.dn v u hv hu with h | h | ⟨_, h⟩
  · rcases List.mem_append.mp h with h | h
    · exact .inl h
    · have := List.mem_singleton.mp h
      subst this
      exact .inr (.inr ⟨rfl, hB u hu⟩)
  · exact .inr (.inl h)
  · cases h
theorem Fl.skip {n : Nat} {S : Nat → List Nat} {p0 : List Int} {c s : Nat} {p : List Int} {W : List Nat} {nd y : Nat} {r : List Nat} (F : Fl n S p0 c s p W nd (y :: r)) (h : 0 ≤ pva p y) : Fl n S p0 c s p W nd r := by
  refine ⟨F.len, F.old, F.rs, F.src, F.wl, fun v u hv hu => ?_⟩
  rcases F.dn v u hv hu with k | k | ⟨k1, k2⟩
  · exact .inl k
  · exact .inr (.inl k)
  · rcases List.mem_cons.mp k2 with k2 | k2
    · rw [k2]; exact .inr (.inl h)
    · exact .inr (.inr ⟨k1, k2⟩)
theorem Fl.take {n : Nat} {S : Nat → List Nat} {p0 : List Int} {c s : Nat} {p : List Int} {W : List Nat} {nd y : Nat} {r : List Nat} (F : Fl n S p0 c s p W nd (y :: r)) (hy : y < n) (h : pva p y < 0) (hc : pva p nd = c) (he : nd ∈ S y) : Fl n S p0 c s (p.set y c) (W ++ [y]) nd r := by
  have hl : y < p.length := by rw [F.len]; exact hy
  refine ⟨by rw [List.length_set]; exact F.len, fun v => ?_, fun v hv => ?_, ?_, fun v hv => ?_, fun v u hv hu => ?_⟩
  · rw [pv_set hl]
    by_cases e : v = y
    · rw [if_pos e, e]
      rcases F.old y with k | ⟨k, _⟩
      · exact .inr ⟨k ▸ h, rfl⟩
      · exact .inr ⟨k, rfl⟩
    · rw [if_neg e]; exact F.old v
  · rw [pv_set hl] at hv
    by_cases e : v = y
    · rw [e]; exact .step he (F.rs _ hc)
    · rw [if_neg e] at hv; exact F.rs v hv
  · rw [pv_set hl]
    split
    · rfl
    · exact F.src
  · rw [pv_set hl]
    rcases List.mem_append.mp hv with k | k
    · split
      · rfl
      · exact F.wl v k
    · rw [if_pos (List.mem_singleton.mp k)]
  · rw [pv_set hl] at hv
    by_cases e : v = y
    · exact .inl (List.mem_append_right _ (by rw [e]; simp))
    · rw [if_neg e] at hv
      rcases F.dn v u hv hu with k | k | ⟨k1, k2⟩
      · exact .inl (List.mem_append_left _ k)
      · refine .inr (.inl ?_)
        rw [pv_set hl]
        split
        · exact Int.natCast_nonneg _
        · exact k
      · rcases List.mem_cons.mp k2 with k2 | k2
        · refine .inr (.inl ?_)
          rw [pv_set hl, if_pos k2]
          exact Int.natCast_nonneg _
        · exact .inr (.inr ⟨k1, k2⟩)
theorem Pt.next {n : Nat} {S : Nat → List Nat} {p0 p : List Int} {c s nd : Nat} (P : Pt n S p0 c) (hs : pva p0 s < 0) (hq : ∀ u, u < n → pva p0 u < 0 → Rch S u s → Rch S s u) (F : Fl n S p0 c s p [] nd []) : Pt n S p (c + 1) := by
  have ce : ∀ v, pva p v = c → pva p0 v < 0 := fun v hv => by
    rcases F.old v with k | ⟨k, _⟩
    · have := (P.lo v).2; omega
    · exact k
  have oe : ∀ v, pva p v ≠ c → pva p v = pva p0 v := fun v hv => by
    rcases F.old v with k | ⟨_, k⟩
    · exact k
    · exact absurd k hv
  have mtl : ∀ v, pva p v = c → Rch S v s ∧ Rch S s v := fun v hv => by
    have h1 := F.rs v hv
    have hl : v < n := by rw [← F.len]; exact pv_lt (by rw [hv]; exact Int.natCast_nonneg _)
    exact ⟨h1, hq v hl (ce v hv) h1⟩
  refine ⟨F.len, fun v => ?_, fun u v hu hv => ?_, fun u v hm hv => ?_, fun k hk => ?_⟩
  · have := P.lo v
    rcases F.old v with k | ⟨_, k⟩ <;> rw [k] <;> omega
  · by_cases eu : pva p u = c
    · by_cases ev : pva p v = c
      · have a := mtl u eu
        have b := mtl v ev
        exact ⟨fun _ => ⟨a.1.trans b.2, b.1.trans a.2⟩, fun _ => by rw [eu, ev]⟩
      · rw [oe v ev] at hv
        refine ⟨fun z => absurd (z.symm.trans eu) ev, fun z => ?_⟩
        have := (P.back z.1 hv).1
        have := ce u eu
        omega
    · by_cases ev : pva p v = c
      · rw [oe u eu] at hu
        refine ⟨fun z => absurd (z.trans ev) eu, fun z => ?_⟩
        have := (P.back z.2 hu).1
        have := ce v ev
        omega
      · rw [oe u eu] at hu ⊢
        rw [oe v ev] at hv ⊢
        exact P.cls u v hu hv
  · by_cases ev : pva p v = c
    · rcases F.dn v u ev hm with k | k | ⟨_, k⟩
      · cases k
      · refine ⟨k, ?_⟩
        rw [ev]
        have := P.lo u
        rcases F.old u with z | ⟨_, z⟩ <;> rw [z] <;> omega
      · cases k
    · rw [oe v ev] at hv ⊢
      obtain ⟨h1, h2⟩ := P.up u v hm hv
      have : pva p u = pva p0 u := oe u fun z => by have := ce u z; omega
      rw [this]
      exact ⟨h1, h2⟩
  · by_cases e : k = c
    · rw [e]; exact ⟨s, F.src⟩
    · obtain ⟨v, hv⟩ := P.full k (by omega)
      refine ⟨v, ?_⟩
      rcases F.old v with z | ⟨z, _⟩
      · rw [z]; exact hv
      · rw [hv] at z; omega
/-- what the order of finishing is for -/
theorem Rch.lt {n : Nat} {S : Nat → List Nat} (hS : ∀ u, ∀ v ∈ S u, v < n) {u v : Nat} (h : Rch S u v) : u < n → v < n := by
  induction h with
  | refl => exact id
  | step a _ ih => exact fun _ => ih (hS _ _ a)
theorem Fin.hq {n : Nat} {S : Nat → List Nat} {o : List Nat} (F : Fin n S o) (hS : ∀ u, ∀ v ∈ S u, v < n) {p0 : List Int} {c s i : Nat} (P : Pt n S p0 c) (hi : o.reverse[i]? = some s) (hd : ∀ j y, j < i → o.reverse[j]? = some y → 0 ≤ pva p0 y) : ∀ u, u < n → pva p0 u < 0 → Rch S u s → Rch S s u := by
  intro u hu hneg hr
  have hil : i < o.length := by
    have := (List.getElem?_eq_some_iff.mp hi).1
    rw [List.length_reverse] at this
    exact this
  rw [List.getElem?_reverse hil] at hi
  obtain ⟨r, r1, r2, hn⟩ := F.q _ s hi u hr
  have hro := (F.al r).mpr (r1.lt hS hu)
  obtain ⟨t, ht⟩ := List.getElem?_of_mem hro
  have htl := (List.getElem?_eq_some_iff.mp ht).1
  by_cases h1 : t < o.length - 1 - i
  · refine absurd ?_ hn
    refine List.mem_of_getElem? (i := t) ?_
    rw [List.getElem?_take_of_lt h1]
    exact ht
  · by_cases h2 : t = o.length - 1 - i
    · rw [← h2, ht] at hi
      have : r = s := by simpa using hi
      rw [← this]
      exact r2
    · have := hd (o.length - 1 - t) r (by omega) (by rw [List.getElem?_reverse (by omega), show o.length - 1 - (o.length - 1 - t) = t by omega]; exact ht)
      have := (P.back r1 this).1
      omega
def neg (p : List Int) : Nat := (p.filter fun x => decide (x < 0)).length
theorem neg_set : ∀ {p : List Int} {j : Nat} {y : Int}, j < p.length → pva p j < 0 → 0 ≤ y → neg (p.set j y) + 1 = neg p
  | [], j, y, h, _, _ => absurd h (Nat.not_lt_zero _)
  | x :: p, 0, y, h, hn, hy => by
    have hx : x < 0 := hn
    unfold neg
    rw [List.set_cons_zero, List.filter_cons, List.filter_cons, if_neg (by simp; omega), if_pos (by simp; omega)]
    rfl
  | x :: p, j + 1, y, h, hn, hy => by
    have hn' : pva p j < 0 := by
      have : pva (x :: p) (j + 1) = pva p j := by unfold pva; rw [List.getElem?_cons_succ]
      rw [← this]; exact hn
    have ih := neg_set (p := p) (j := j) (y := y) (Nat.lt_of_succ_lt_succ h) hn' hy
    unfold neg at ih ⊢
    rw [List.set_cons_succ, List.filter_cons, List.filter_cons]
    split
    · rw [List.length_cons, List.length_cons]; omega
    · exact ih
end K23
namespace K23
open PySem PySem.Spec PyProof.Rows L2 He TL EL
section
variable {P : Program} {w : World} {K : PySem.W.Frag} {mg : Str → Option Value} {base : Heap}
theorem dp_ints {H : Hp} : ∀ W : List Nat, DpAll K H (W.map nv) (W.map fun x => PyData.int (x : Nat))
  | [] => .nil
  | _ :: W => .cons (.int _) (dp_ints W)
theorem pds_ints (W : List Nat) : Pds (W.map fun x => PyData.int (x : Nat)) := fun d hd => by
  obtain ⟨t, _, rfl⟩ := List.mem_map.mp hd
  exact ⟨rfl, rfl, by show 0 ≤ 16; decide⟩
theorem neg_le (p : List Int) : neg p ≤ p.length := List.length_filter_le _ _
theorem snoc_of {α : Type} : ∀ {l : List α}, l ≠ [] → ∃ u x, l = u ++ [x]
  | [], h => absurd rfl h
  | [x], _ => ⟨[], x, rfl⟩
  | x :: y :: l, _ => by
    obtain ⟨u, z, h⟩ := snoc_of (l := y :: l) (by simp)
    exact ⟨x :: u, z, by rw [h]; rfl⟩
/-! parts_of -/
def spPof (K : PySem.W.Frag) : Sp := fun vs H Q _ => ∃ af bf G B, vs = [.ref af, .ref bf] ∧ Gr K H af G ∧ Gr K H bf B ∧ Gok G ∧ Gok B ∧ B.length = G.length ∧ (∀ u v, v ∈ sc G u ↔ u ∈ sc B v) ∧ G.length ≤ 100 ∧
  ∀ p ps c H', H p = none → Same H H' → H' p = some (.lst (ps.map V.int)) → Pt G.length (sc G) ps c → (∀ v, v < G.length → 0 ≤ pva ps v) → Q (.ref p) H'
theorem sc_lt {G : List (List Nat)} (h : Gok G) : ∀ u, ∀ v ∈ sc G u, v < G.length := fun u v hv => by
  unfold sc at hv
  cases e : G[u]? with
  | none => rw [e] at hv; cases hv
  | some l => rw [e] at hv; exact h l (List.mem_of_getElem? e) v hv
theorem d_parts_of (T : Txt K mg) : Dn P w K mg base CX0 2 "parts_of" (spPof K) := by
  obtain ⟨fd, F⟩ := T.f_parts_of
  have D_finish_order := d_finish_order (P := P) (w := w) (base := base) T
  refine dnN T.g_parts_of F (fun _ _ _ _ _ _ us hl => match us, hl with | [_, _], _ => rfl) sc_parts_of (fun vs H Q E h => ?_) (fun cdv A outer s H vs Q E hr h => ?_)
  · obtain ⟨af, bf, G, B, rfl, _⟩ := h
    rfl
  · obtain ⟨af, bf, G, B, rfl, hG, hB, hok, hokB, hBl, hGB, hn, hQ⟩ := h
    refine ⟨_, PSs.nox (pss_cons (ps_setLc (i := 2) (own := [("node", 3)]) (tt := tYes) (by rfl) sc_parts_of.nd rfl rfl (sw_true rfl rfl rfl (by decide +kernel)) (pi_list (pv 0)) (blkOk_by (own := [("node", 3)]) (N := ["after", "before", "part", "node", "count", "order", "start", "waiting", "other"]) (sc := defScope s_parts_of) (by decide +kernel)) (fun _ _ _ _ _ => (pg_name (i := 3) sc_parts_of.nd rfl (.inl rfl))) (fun _ _ _ _ _ => pts_nil) (fun _ _ _ _ _ => (pe_un un_neg pe_int)))
      (pss_cons (ps_set (i := 4) sc_parts_of.nd rfl (.inl rfl) pe_int)
      (pss_cons (ps_set (i := 5) sc_parts_of.nd rfl (.inl rfl) (cl D_finish_order (hr.mono (by decide)) (pa_cons (pv 0) pa_nil)))
      (pss_cons (ps_for PassesOwn.never rfl (pi_list (pe_revL (pv 5))) (pg_name (i := 6) sc_parts_of.nd rfl (.inl rfl))
      (pss_cons (ps_if (pt_cmpR op_ge (pe_ix ix_list (pv 2) (pv 6) (fun _ _ => rfl)) pe_int (nomark _)) (pss_one ps_continue) pss_nil)
      (pss_cons (ps_asg (pv 4) (pg_sub (pv 2) (pv 6) set_list))
      (pss_cons (ps_set (i := 7) sc_parts_of.nd rfl (.inl rfl) (pe_lst (pa_cons (pv 6) pa_nil)))
      (pss_cons (ps_while PassesOwn.never (pt_cmpR (op_neD hr.units) (pv 7) (pe_lst pa_nil) (nomark _))
      (pss_cons (ps_set (i := 3) sc_parts_of.nd rfl (.inl rfl) (pe_bm0 PySem.F.plainAttrs_list PySem.F.slot_list_pop PySem.F.type_list_pop mt_pop (pv 7)))
      (pss_one (ps_for PassesOwn.never rfl (pi_list (pe_ix ix_list (pv 1) (pv 3) (fun _ _ => rfl))) (pg_name (i := 8) sc_parts_of.nd rfl (.inl rfl))
      (pss_one (ps_if (pt_cmpR op_lt (pe_ix ix_list (pv 2) (pv 8) (fun _ _ => rfl)) pe_int (nomark _)) (pss_cons (ps_asg (pv 4) (pg_sub (pv 2) (pv 8) set_list))
      (pss_one (ps_expr (pe_bm PySem.F.plainAttrs_list PySem.F.slot_list_append PySem.F.type_list_append mt_append (pv 7) (pa_cons (pv 8) pa_nil))))) pss_nil))))))
      (pss_one (ps_aug (i := 4) sc_parts_of.nd rfl (.inl rfl) pe_int (ip_add))))))))
      (pss_one (ps_ret (pv 2))))))), ?_⟩
    obtain ⟨as, ha, hla, _⟩ := id hG
    obtain ⟨bs, hb, hlb, hbl⟩ := id hB
    refine ⟨_, rfl, _, rfl, ⟨_, SqL.of ha⟩, fun pt np => ?_⟩
    have nea : pt ≠ af := fun z => by rw [z, ha] at np; cases np
    refine lc_it (walk_list (xs := as.map V.ref)) (fun i H' => H' = upd H pt (.lst ((List.replicate i (-1 : Int)).map V.int))) rfl (fun i H' _ h => ?_) ?_ ?_
    · rw [h]
      exact SqL.of (by rw [upd_ne (Ne.symm nea)]; exact ha)
    · rintro i v H' H'' hi e ⟨rfl, hv⟩
      subst e
      refine ⟨rfl, tYes_of ⟨_, rfl, _, upd_same, ?_, ?_⟩⟩
      · rw [List.length_map, List.length_replicate]
        rw [List.length_map, hla] at hi
        exact Nat.lt_of_lt_of_le hi (Nat.le_trans hn (by decide))
      · rw [upd_upd, List.replicate_succ', List.map_append]
        rfl
    · rintro H1 e1
      have s1 : Same H H1 := e1 ▸ same_upd np
      have pt1 : H1 pt = some (.lst ((List.replicate G.length (-1 : Int)).map V.int)) := by rw [e1, List.length_map, hla]; exact upd_same
      clear e1
      refine ⟨_, rfl, af, G, rfl, hG.same s1, hok, hn, fun od o H2 nod s2 od2 FO => ?_⟩
      have nop : od ≠ pt := fun z => by rw [z, pt1] at nod; cases nod
      have pt2 := s2 _ _ pt1
      refine ⟨_, rfl, od, _, rfl, SqL.of od2, fun rv nrv => ?_⟩
      generalize eH3 : upd H2 rv _ = H3
      have s3 : Same H2 H3 := eH3 ▸ same_upd nrv
      have rv3 : H3 rv = some _ := eH3 ▸ upd_same
      have nrp : rv ≠ pt := fun z => by rw [z, pt2] at nrv; cases nrv
      have s03 := s1.trans (s2.trans s3)
      have pt3 := s3 _ _ pt2
      have lo : o.length ≤ G.length := nodup_lt FO.nd fun v hv => (FO.al v).mp hv
      refine ⟨rv, rfl, ⟨_, SqL.of rv3⟩, for_list (K := K) (a := rv) (xs := (o.map nv).reverse) (fun i σ H' => Same H H' ∧ H' rv = some (.lst ((o.map nv).reverse)) ∧ ∃ (ps : List Int) (c : Nat) (o3 o6 o7 o8 : Option V), σ = [some (.ref af), some (.ref bf), some (.ref pt), o3, some (nv c), some (.ref od), o6, o7, o8] ∧ H' pt = some (.lst (ps.map V.int)) ∧ c ≤ i ∧ Pt G.length (sc G) ps c ∧ ∀ j y, j < i → o.reverse[j]? = some y → 0 ≤ pva ps y) ⟨s03, rv3, _, 0, _, _, _, _, rfl, pt3, Nat.le_refl _, .init, fun j y h => absurd h (Nat.not_lt_zero _)⟩ (fun i σ H' _ h => SqL.of h.2.1) ?_ ?_⟩
      · rintro i v σ H4 hg ⟨s04, rv4, ps, c, o3, o6, o7, o8, rfl, pt4, hci, P, hd⟩
        rw [← List.map_reverse] at hg
        obtain ⟨st, hst, rfl⟩ := getM hg
        have hil := (List.getElem?_eq_some_iff.mp hst).1
        have hstn : st < G.length := (FO.al st).mp (List.mem_reverse.mp (List.mem_of_getElem? hst))
        have hsl : st < ps.length := by rw [P.len]; exact hstn
        refine ⟨_, rfl, _, rfl, _, _, _, _, rfl, rfl, SqL.of pt4, atI_nat (mapAt (pv_get hsl)), _, _, rfl, rfl, _, rfl, ie (fun c1 => ?_) (fun c1 => ?_)⟩
        · have c1 : 0 ≤ pva ps st := of_decide_eq_true c1
          refine ⟨s04, rv4, ps, c, _, _, _, _, rfl, pt4, by omega, P, fun j y hj hy => ?_⟩
          by_cases z : j = i
          · rw [z, hst] at hy
            cases hy
            exact c1
          · exact hd j y (by omega) hy
        · have c1 : pva ps st < 0 := by have := of_decide_eq_false c1; omega
          refine ⟨_, rfl, _, rfl, _, rfl, pt, _, _, st, rfl, rfl, pt4, ixNn (by rw [List.length_map]; exact hsl), ?_⟩
          generalize eH5 : upd H4 pt _ = H5
          have pt5 : H5 pt = some (.lst ((ps.set st (c : Int)).map V.int)) := by rw [← eH5, List.map_set]; exact upd_same
          have s05 : Same H H5 := eH5 ▸ same_upN s04 np
          have rv5 : H5 rv = some (.lst ((o.map nv).reverse)) := by rw [← eH5, upd_ne nrp]; exact rv4
          refine ⟨_, rfl, (by show 1 ≤ sizeLine; decide), fun wt nwt => ?_⟩
          generalize eH6 : upd H5 wt _ = H6
          have s6 : Same H5 H6 := eH6 ▸ same_upd nwt
          have wt6 : H6 wt = some _ := eH6 ▸ upd_same
          have nw0 : H wt = none := by
            cases hh : H wt with
            | none => rfl
            | some ob => rw [s05 _ _ hh] at nwt; cases nwt
          have nwp : wt ≠ pt := fun z => by rw [z, pt5] at nwt; cases nwt
          have nwr : wt ≠ rv := fun z => by rw [z, rv5] at nwt; cases nwt
          have hq := FO.hq (sc_lt hok) P hst hd
          refine ⟨fun m σ H' => Same H H' ∧ H' rv = some (.lst ((o.map nv).reverse)) ∧ ∃ (p1 : List Int) (W : List Nat) (nd : Nat) (o3 o8 : Option V), m = W.length + neg p1 ∧ σ = [some (.ref af), some (.ref bf), some (.ref pt), o3, some (nv c), some (.ref od), some (nv st), some (.ref wt), o8] ∧ H' pt = some (.lst (p1.map V.int)) ∧ H' wt = some (.lst (W.map nv)) ∧ Fl G.length (sc G) ps c st p1 W nd [] ∧ W.length + neg p1 ≤ 200, ⟨_, s05.trans s6, s6 _ _ rv5, ps.set st c, [st], 0, _, _, rfl, rfl, s6 _ _ pt5, wt6, Fl.init P hstn c1, ?_⟩, ?_⟩
          · have := neg_le (ps.set st (c : Int))
            rw [List.length_set, P.len] at this
            show 1 + neg (ps.set st (c : Int)) ≤ 200
            omega
          · clear s05 s6 wt6 rv5 pt5 nwt eH5
            rintro m σ H7 ⟨s07, rv7, p1, W, nd, o3', o8', rfl, rfl, pt7, wt7, FL, hm⟩
            refine ⟨_, rfl, (by show 0 ≤ sizeLine; decide), fun q nq => ?_⟩
            generalize eH8 : upd H7 q _ = H8
            have s8 : Same H7 H8 := eH8 ▸ same_upd nq
            have q8 : H8 q = some _ := eH8 ▸ upd_same
            have s08 := s07.trans s8
            have rv8 := s8 _ _ rv7
            have pt8 := s8 _ _ pt7
            have wt8 := s8 _ _ wt7
            refine ⟨.list (W.map fun x => PyData.int (x : Nat)), .list [], .lst (SqL.of wt8) (dp_ints W), .lst (SqL.of q8) .nil, Pds.shaped (pds_ints W), rfl, _, rfl, ?_⟩
            rw [eqv_nil]
            by_cases hW : W = []
            · subst hW
              refine if_neg_of rfl ⟨_, rfl, _, _, rfl, rfl, s08, rv8, p1, c + 1, _, _, _, _, rfl, pt8, by omega, P.next c1 hq FL, fun j y hj hy => ?_⟩
              have cn := Int.natCast_nonneg c
              by_cases z : j = i
              · rw [z, hst] at hy
                cases hy
                rw [FL.src]
                exact cn
              · have := hd j y (by omega) hy
                rcases FL.old y with k | ⟨_, k⟩ <;> rw [k]
                · exact this
                · exact cn
            · obtain ⟨u, x, rfl⟩ := snoc_of hW
              refine if_pos_of (by rw [List.map_append]; cases u <;> rfl) ⟨_, fun σ' H2 hN => hN, ?_⟩
              have hxc := FL.wl x (List.mem_append_right _ (by simp))
              have hxn : x < G.length := by rw [← FL.len]; exact pv_lt (by rw [hxc]; exact Int.natCast_nonneg _)
              obtain ⟨l, hl⟩ : ∃ l, B[x]? = some l := ⟨_, List.getElem?_eq_getElem (by omega)⟩
              obtain ⟨bx, hbx⟩ : ∃ bx, bs[x]? = some bx := ⟨_, List.getElem?_eq_getElem (by omega)⟩
              have hbx0 := hbl x bx l hbx hl
              have hBx : sc B x = l := sc_at hl
              rw [List.map_append] at wt8
              refine ⟨_, rfl, .inl ⟨rfl, _, SqL.of wt8⟩, wt, _, _, rfl, rfl, wt8, (by rw [List.length_append, List.length_map, List.length_map, List.length_singleton, Nat.add_sub_cancel, List.getElem?_append_right (by rw [List.length_map]; exact Nat.le_refl _), List.length_map, Nat.sub_self]; rfl), ?_⟩
              rw [show (List.map nv u ++ List.map nv [x]).dropLast = u.map nv from List.dropLast_concat]
              generalize eH9 : upd H8 wt _ = H9
              have wt9 : H9 wt = some (.lst (u.map nv)) := eH9 ▸ upd_same
              have pt9 : H9 pt = some (.lst (p1.map V.int)) := by rw [← eH9, upd_ne (Ne.symm nwp)]; exact pt8
              have rv9 : H9 rv = some (.lst ((o.map nv).reverse)) := by rw [← eH9, upd_ne (Ne.symm nwr)]; exact rv8
              have s09 : Same H H9 := eH9 ▸ same_upN s08 nw0
              have FP := FL.pop (B := l) fun v hv => by rw [← hBx]; exact (hGB v x).mp hv
              rw [List.length_append, List.length_singleton] at hm
              refine ⟨_, rfl, _, rfl, _, _, _, _, rfl, rfl, SqL.of (s09 _ _ hb), atI_nat (mapAt hbx), bx, rfl, ⟨_, SqL.of (s09 _ _ hbx0)⟩, for_list (K := K) (a := bx) (xs := l.map nv) (fun j σ H' => Same H H' ∧ H' rv = some (.lst ((o.map nv).reverse)) ∧ ∃ (p2 : List Int) (W : List Nat) (o8 : Option V), σ = [some (.ref af), some (.ref bf), some (.ref pt), some (nv x), some (nv c), some (.ref od), some (nv st), some (.ref wt), o8] ∧ H' pt = some (.lst (p2.map V.int)) ∧ H' wt = some (.lst (W.map nv)) ∧ Fl G.length (sc G) ps c st p2 W x (l.drop j) ∧ pva p2 x = c ∧ W.length + neg p2 = u.length + neg p1) ⟨s09, rv9, p1, u, _, rfl, pt9, wt9, FP, hxc, rfl⟩ (fun j σ H' _ h => SqL.of (h.1 _ _ hbx0)) ?_ ?_⟩
              · clear s09 rv9 pt9 wt9 FP hxc eH9 s08 rv8 pt8 wt8
                rintro j v σ Ha hg2 ⟨s0a, rva, p2, W2, o8, rfl, pta, wta, FA, hxc, hms⟩
                obtain ⟨y, hy, rfl⟩ := getM hg2
                have hyn : y < G.length := by rw [← hBl]; exact hokB l (List.mem_of_getElem? hl) y (List.mem_of_getElem? hy)
                have hyl : y < p2.length := by rw [FA.len]; exact hyn
                have hjl := (List.getElem?_eq_some_iff.mp hy).1
                have hdr : l.drop j = y :: l.drop (j + 1) := by
                  rw [List.drop_eq_getElem_cons hjl]
                  congr 1
                  exact (List.getElem?_eq_some_iff.mp hy).2
                rw [hdr] at FA
                refine ⟨_, rfl, _, rfl, _, _, _, _, rfl, rfl, SqL.of pta, atI_nat (mapAt (pv_get hyl)), _, _, rfl, rfl, _, rfl, ie (fun c2 => ?_) (fun c2 => ?_)⟩
                · have c2 : pva p2 y < 0 := of_decide_eq_true c2
                  refine ⟨_, rfl, _, rfl, _, rfl, pt, _, _, y, rfl, rfl, pta, ixNn (by rw [List.length_map]; exact hyl), ?_⟩
                  generalize eHb : upd Ha pt _ = Hb
                  have ptb : Hb pt = some (.lst ((p2.set y (c : Int)).map V.int)) := by rw [← eHb, List.map_set]; exact upd_same
                  have s0b : Same H Hb := eHb ▸ same_upN s0a np
                  have rvb : Hb rv = some (.lst ((o.map nv).reverse)) := by rw [← eHb, upd_ne nrp]; exact rva
                  have wtb : Hb wt = some (.lst (W2.map nv)) := by rw [← eHb, upd_ne nwp]; exact wta
                  refine ⟨_, rfl, .inl ⟨rfl, _, SqL.of wtb⟩, _, rfl, wt, _, _, rfl, rfl, wtb, (by rw [List.length_map]; exact Nat.lt_of_le_of_lt (by omega : W2.length ≤ 200) (by decide)), ?_⟩
                  generalize eHc : upd Hb wt _ = Hc
                  have wtc : Hc wt = some (.lst ((W2 ++ [y]).map nv)) := by rw [← eHc, List.map_append]; exact upd_same
                  have ptc : Hc pt = some (.lst ((p2.set y (c : Int)).map V.int)) := by rw [← eHc, upd_ne (Ne.symm nwp)]; exact ptb
                  have rvc : Hc rv = some (.lst ((o.map nv).reverse)) := by rw [← eHc, upd_ne (Ne.symm nwr)]; exact rvb
                  have s0c : Same H Hc := eHc ▸ same_upN s0b nw0
                  have hng := neg_set hyl c2 (Int.natCast_nonneg c)
                  refine ⟨s0c, rvc, _, _, _, rfl, ptc, wtc, FA.take hyn c2 hxc ((hGB y x).mpr (by rw [hBx]; exact List.mem_of_getElem? hy)), ?_, ?_⟩
                  · rw [pv_set hyl, if_neg (by intro z; rw [← z, hxc] at c2; omega)]
                    exact hxc
                  · rw [List.length_append, List.length_singleton]
                    omega
                · have c2 : 0 ≤ pva p2 y := by have := of_decide_eq_false c2; omega
                  exact ⟨s0a, rva, p2, W2, _, rfl, pta, wta, FA.skip c2, hxc, hms⟩
              · rintro σ Ha ⟨s0a, rva, p2, W2, o8, rfl, pta, wta, FA, hxc, hms⟩
                rw [List.length_map, List.drop_length] at FA
                refine ⟨W2.length + neg p2, ?_, s0a, rva, p2, W2, x, _, _, rfl, rfl, pta, wta, FA, by omega⟩
                rw [List.length_append, List.length_singleton]
                omega
      · rintro σ H4 ⟨s04, rv4, ps, c, o3, o6, o7, o8, rfl, pt4, hci, P, hd⟩
        refine ⟨_, rfl, hQ pt ps c H4 np s04 pt4 P fun v hv => ?_⟩
        obtain ⟨j, hj⟩ := List.getElem?_of_mem (List.mem_reverse.mpr ((FO.al v).mpr hv))
        have hjl := (List.getElem?_eq_some_iff.mp hj).1
        exact hd j v (by rw [List.length_reverse, List.length_map]; rw [List.length_reverse] at hjl; exact hjl) hj
end
end K23
namespace K23
open PySem PySem.Spec PyProof.Rows L2 He TL EL
/-! a web, typed -/
structure Wn where
  s : Sg
  i : Nat
  j : Nat
  deriving DecidableEq
def wnD (t : Wn) : PyData := .tuple [.str t.s.s, .int (t.i : Nat), .int (t.j : Nat)]
def woD : Option (Int × Int) → PyData
  | none => .none
  | some v => valD v
structure Wv (ws : List (Option (Int × Int))) (ts : List Wn) : Prop where
  vl : ∀ v, some v ∈ ws → Vl v
  tb : ∀ t ∈ ts, t.i < ws.length ∧ t.j < ws.length
  un : ∀ (i j : Nat) v, ws[i]? = some (some v) → ws[j]? = some (some v) → i = j
def wEd (t : Wn) : List (Nat × Nat) := (if t.s = .ne then [] else [(t.i, t.j)]) ++ (if t.s = .eq then [(t.j, t.i)] else [])
def wEds (ts : List Wn) : List (Nat × Nat) := ts.flatMap wEd
def fxV (ws : List (Option (Int × Int))) : List (Int × Int) := ws.filterMap id
def ixv (ws : List (Option (Int × Int))) (v : Int × Int) : Nat := (ws.findIdx? fun o => decide (o = some v)).getD 0
def rowN (ws : List (Option (Int × Int))) : List Nat := (asc (fxV ws)).map (ixv ws)
def edgesL (ws : List (Option (Int × Int))) (ts : List Wn) : List (Nat × Nat) := wEds ts ++ (rowN ws).zip ((rowN ws).drop 1)
def prD (p : Nat × Nat) : PyData := .tuple [.int (p.1 : Nat), .int (p.2 : Nat)]
theorem mem_fxV {ws : List (Option (Int × Int))} {v : Int × Int} : v ∈ fxV ws ↔ some v ∈ ws := by
  unfold fxV
  rw [List.mem_filterMap]
  constructor
  · rintro ⟨o, h, e⟩
    have e' : o = some v := e
    rw [← e']
    exact h
  · exact fun h => ⟨_, h, rfl⟩
theorem idx_wo (ws : List (Option (Int × Int))) (a b : Int) : idx (ws.map woD) a b = ws.findIdx? fun o => decide (o = some (a, b)) := by
  unfold idx
  rw [List.findIdx?_map]
  congr 1
  funext o
  cases o with
  | none => rfl
  | some v =>
    show PyData.eqv (valD v) (valD (a, b)) = _
    rw [eqv_valD]
    exact decide_eq_decide.mpr ⟨fun h => by rw [h], fun h => Option.some.inj h⟩
theorem ixv_get {ws : List (Option (Int × Int))} {v : Int × Int} (h : some v ∈ ws) : ws.findIdx? (fun o => decide (o = some v)) = some (ixv ws v) ∧ ws[ixv ws v]? = some (some v) := by
  unfold ixv
  cases e : ws.findIdx? fun o => decide (o = some v) with
  | none =>
    have := List.findIdx?_eq_none_iff.mp e (some v) h
    simp at this
  | some i =>
    refine ⟨rfl, ?_⟩
    obtain ⟨hi, h1, _⟩ := List.findIdx?_eq_some_iff_getElem.mp e
    rw [Option.getD_some, List.getElem?_eq_getElem hi, of_decide_eq_true h1]
def keyP : List Key → Int × Int
  | [.inl a, .inl b] => (a, b)
  | _ => (0, 0)
theorem pds_pr (l : List (Nat × Nat)) : Pds (l.map prD) := fun d hd => by
  obtain ⟨t, _, rfl⟩ := List.mem_map.mp hd
  exact ⟨rfl, rfl, by show 1 ≤ 16; decide⟩
theorem kn_mem {ws : List (Option (Int × Int))} {kn : List (List Key × V)} (k : Kn (ws.map woD) kn) (z : Int × Int) : z ∈ kn.map (fun p => keyP p.1) ↔ some z ∈ ws := by
  have hv := k.val z.1 z.2
  rw [idx_wo] at hv
  have key : z ∈ kn.map (fun p => keyP p.1) ↔ tk z.1 z.2 ∈ kn.map (·.1) := by
    rw [List.mem_map, List.mem_map]
    constructor
    · rintro ⟨p, hp, e⟩
      obtain ⟨a, b, ep⟩ := k.ky p hp
      refine ⟨p, hp, ?_⟩
      have : keyP p.1 = (a, b) := by rw [ep]; rfl
      rw [ep]
      rw [this] at e
      rw [← e]
    · rintro ⟨p, hp, e⟩
      exact ⟨p, hp, by rw [e]; rfl⟩
  rw [key]
  constructor
  · intro h
    cases e : ws.findIdx? fun o => decide (o = some (z.1, z.2)) with
    | none =>
      rw [e] at hv
      exact absurd h (valV_none hv)
    | some i =>
      obtain ⟨hi, h1, _⟩ := List.findIdx?_eq_some_iff_getElem.mp e
      have := of_decide_eq_true h1
      rw [show (z.1, z.2) = z from rfl] at this
      rw [← this]
      exact List.getElem_mem hi
  · intro h
    by_cases n : tk z.1 z.2 ∈ kn.map (·.1)
    · exact n
    · rw [valV_miss n] at hv
      have := (ixv_get h).1
      rw [show (z.1, z.2) = z from rfl] at hv
      rw [this] at hv
      cases hv
section
variable {P : Program} {w : World} {K : PySem.W.Frag} {mg : Str → Option Value} {base : Heap}
theorem keys_dp {H : Hp} : ∀ {kn : List (List Key × V)} {bs : List Addr}, IsKeys H kn bs → (∀ p ∈ kn, ∃ a b, p.1 = tk a b) → DpAll K H (bs.map V.ref) ((kn.map fun p => keyP p.1).map valD)
  | _, _, .nil, _ => .nil
  | p :: kn, b :: bs, .cons h t, hk => by
    obtain ⟨x, y, e⟩ := hk p List.mem_cons_self
    refine .cons ?_ (keys_dp t fun q hq => hk q (List.mem_cons_of_mem _ hq))
    rw [e] at h
    show Dp K H (.ref b) (valD (keyP p.1))
    rw [e]
    exact .tup (SqT.of h) (.cons (.int _) (.cons (.int _) .nil))
theorem dp_wn {H : Hp} {v : V} {t : Wn} (h : Dp K H v (wnD t)) : ∃ q, v = .ref q ∧ SqT K H q [.str t.s.s, .int (t.i : Nat), .int (t.j : Nat)] := by
  cases h with
  | tup hS hA =>
    cases hA with
    | cons h1 hA =>
      cases hA with
      | cons h2 hA =>
        cases hA with
        | cons h3 hA =>
          cases hA
          cases h1
          cases h2
          cases h3
          exact ⟨_, rfl, hS⟩
theorem dp_len {α : Type} {f : α → PyData} {H : Hp} {vs : List V} {l : List α} (h : DpAll K H vs (l.map f)) : vs.length = l.length := by rw [DpAll.length h, List.length_map]
theorem s_app {D : Ends} {σ : L2.St} {H : Hp} {pr : Addr} {us : List V} {i ia ib a b : Nat} (h1 : σ[i]? = some (some (.ref pr))) (h2 : σ[ia]? = some (some (nv a))) (h3 : σ[ib]? = some (some (nv b))) (hp : H pr = some (.lst us)) (hl : us.length < sizeLine)
    (k : ∀ t H', Md [pr] H H' → (∀ H0, Same H0 H → H0 pr = none → Same H0 H') → H' t = some (.tup [nv a, nv b]) → H' pr = some (.lst (us ++ [.ref t])) → D.nx σ H') :
    tDrop (tBM K "list" rAppend (tVar i) (tCons (tTup (tCons (tVar ia) (tCons (tVar ib) tNil))) tNil)) D σ H := by
  refine ⟨_, h1, .inl ⟨rfl, _, SqL.of hp⟩, _, h2, _, h3, (by show 2 ≤ sizeLine; decide), fun t nt => ?_⟩
  generalize eH1 : upd H t _ = H1
  have s1 : Same H H1 := eH1 ▸ same_upd nt
  have t1 : H1 t = some _ := eH1 ▸ upd_same
  have hne : t ≠ pr := fun z => by rw [z, hp] at nt; cases nt
  refine ⟨pr, _, _, rfl, rfl, s1 _ _ hp, hl, ?_⟩
  have m : Md [pr] H1 (upd H1 pr (.lst (us ++ [.ref t]))) := Md.upd (s1 _ _ hp) rfl (by simp)
  refine k t _ ((Md.of s1).trans m) (fun H0 s0 n0 => same_upN (s0.trans s1) n0) ?_ upd_same
  rw [upd_ne hne]
  exact t1
theorem wEds_len : ∀ l : List Wn, (wEds l).length ≤ 2 * l.length
  | [] => Nat.le_refl _
  | t :: l => by
    have := wEds_len l
    have h : (wEd t).length ≤ 2 := by unfold wEd; split <;> split <;> simp
    unfold wEds at *
    rw [List.flatMap_cons, List.length_append, List.length_cons]
    omega
theorem wEds_snoc (l : List Wn) (t : Wn) : wEds (l ++ [t]) = wEds l ++ wEd t := by
  unfold wEds
  rw [List.flatMap_append, List.flatMap_cons, List.flatMap_nil, List.append_nil]
theorem dp_pr {H : Hp} {t : Addr} {a b : Nat} (h : H t = some (.tup [nv a, nv b])) : Dp K H (.ref t) (prD (a, b)) := .tup (SqT.of h) (.cons (.int _) (.cons (.int _) .nil))
/-- a value of the list of a dict's keys is a tuple of the heap -/
theorem keys_at {H : Hp} {y : V × (Int × Int)} : ∀ {kn : List (List Key × V)} {bs : List Addr}, IsKeys H kn bs → y ∈ (bs.map V.ref).zip (kn.map fun p => keyP p.1) → (∀ p ∈ kn, ∃ a b, p.1 = tk a b) → ∃ q, y.1 = .ref q ∧ H q = some (.tup ((tk y.2.1 y.2.2).map kV))
  | _, _, .nil, h, _ => by cases h
  | p :: kn, b :: bs, .cons h t, hm, hk => by
    rcases List.mem_cons.mp hm with e | e
    · obtain ⟨x, z, ep⟩ := hk p List.mem_cons_self
      rw [e]
      refine ⟨b, rfl, ?_⟩
      rw [ep] at h
      show H b = some (.tup ((tk (keyP p.1).1 (keyP p.1).2).map kV))
      rw [ep]
      exact h
    · exact keys_at t e fun q hq => hk q (List.mem_cons_of_mem _ hq)
theorem zip_dp {H : Hp} : ∀ {a b : List Nat} {ts : List Addr}, Paired (fun (t : Addr) (q : V × V) => H t = some (.tup [q.1, q.2])) ts ((a.map nv).zip (b.map nv)) → DpAll K H (ts.map V.ref) ((a.zip b).map prD)
  | [], _, _, .nil => .nil
  | _ :: _, [], _, .nil => .nil
  | _ :: a, _ :: b, _ :: ts, .cons h t => .cons (dp_pr h) (zip_dp t)
theorem cut_one (xs : List V) : cutV xs (some 1) none = xs.drop 1 := by
  unfold cutV
  rw [show (some (1 : Int)) = some ((1 : Nat) : Int) from rfl, HT.sIx_nat, HT.sIx_none]
  cases xs with
  | nil => rfl
  | cons x r =>
    rw [show min 1 (x :: r).length = 1 by rw [List.length_cons]; omega]
    exact List.take_of_length_le (by rw [List.length_drop]; exact Nat.le_refl _)
/-! edges -/
def spEdges (K : PySem.W.Frag) : Sp := fun vs H Q _ => ∃ x dx lw lt kd ws ts, vs = [.ref x] ∧ Wb K H x dx lw lt kd (ws.map woD) (ts.map wnD) ∧ Wv ws ts ∧ ws.length ≤ 100 ∧ ts.length ≤ 100 ∧
  ∀ p us H', H p = none → Same H H' → H' p = some (.lst us) → DpAll K H' us ((edgesL ws ts).map prD) → Q (.ref p) H'
theorem d_edges (T : Txt K mg) : FnR P w K mg base CX0 3 (ma K (ga K "Web") "edges") (spEdges K) := by
  obtain ⟨fd, F⟩ := T.f_Web_edges
  have D_ascending := d_ascending (P := P) (w := w) (base := base) T
  refine fnN F (fun _ _ _ _ _ _ us hl => match us, hl with | [_], _ => rfl) sc_Web_edges (fun vs H Q E h => ?_) (fun cdv A outer s H vs Q E hr h => ?_)
  · obtain ⟨x, dx, lw, lt, kd, ws, ts, rfl, _⟩ := h
    rfl
  · obtain ⟨x, dx, lw, lt, kd, ws, ts, rfl, W, Vv, hl1, hl2, hQ⟩ := h
    refine ⟨_, PSs.nox (pss_cons (ps_set (i := 1) sc_Web_edges.nd rfl (.inl rfl) (pe_lst pa_nil))
      (pss_cons (ps_for PassesOwn.never rfl (pi_list (pe_fld (pv 0) rfl)) (pg_tup rfl (pgs_cons (pg_name (i := 2) sc_Web_edges.nd rfl (.inl rfl)) (pgs_cons (pg_name (i := 3) sc_Web_edges.nd rfl (.inl rfl)) (pgs_cons (pg_name (i := 4) sc_Web_edges.nd rfl (.inl rfl)) pgs_nil))))
      (pss_cons (ps_if (pt_cmpR op_ne (pv 2) pe_str (nomark _)) (pss_one (ps_expr (pe_bm PySem.F.plainAttrs_list PySem.F.slot_list_append PySem.F.type_list_append mt_append (pv 1) (pa_cons (pe_tup (pa_cons (pv 3) (pa_cons (pv 4) pa_nil))) pa_nil)))) pss_nil)
      (pss_one (ps_if (pt_cmpR op_eq (pv 2) pe_str (nomark _)) (pss_one (ps_expr (pe_bm PySem.F.plainAttrs_list PySem.F.slot_list_append PySem.F.type_list_append mt_append (pv 1) (pa_cons (pe_tup (pa_cons (pv 4) (pa_cons (pv 3) pa_nil))) pa_nil)))) pss_nil))))
      (pss_cons (ps_setLc (i := 5) (own := [("worth", 6)]) (tt := tYes) (by rfl) sc_Web_edges.nd rfl rfl (sw_true rfl rfl rfl (by decide +kernel)) (pi_list (cl D_ascending (hr.mono (by decide)) (pa_cons (pe_callTy (call_list_dT (by rfl)) (by rfl) T.z_list (by decide +kernel) (pa_cons (pe_fld (pv 0) rfl) pa_nil)) pa_nil))) (blkOk_by (own := [("worth", 6)]) (N := ["self", "pairs", "sign", "one", "other", "row", "worth"]) (sc := defScope s_Web_edges) (by decide +kernel)) (fun _ _ _ _ _ => (pg_name (i := 6) sc_Web_edges.nd rfl (.inl rfl))) (fun _ _ _ _ _ => pts_nil) (fun _ _ _ _ _ => (pe_dget (hu_of hr) (show PE _ _ (tFld K _ _) from pe_fld (pv 0) rfl) (pv 6) (fun _ _ => rfl))))
      (pss_one (ps_ret (pe_op op_cat (pv 1) (ZL.pe_zipL (by rfl) (by rfl) T.z_list (by rfl) T.z_zip (pa_cons (pv 5) (pa_cons (pe_slice sl_list (pv 5) (po_some pe_int) po_none) pa_nil))))))))), ?_⟩
    obtain ⟨hx, ⟨v1, e1, a1⟩, ⟨v2, e2, a2⟩, ⟨kn, e3, a3⟩, pw, pd⟩ := W
    refine ⟨(by show 0 ≤ sizeLine; decide), fun pr np => ?_⟩
    generalize eH1 : upd H pr _ = H1
    have s1 : Same H H1 := eH1 ▸ same_upd np
    have p1 : H1 pr = some _ := eH1 ▸ upd_same
    refine ⟨_, rfl, _, _, _, _, _, rfl, s1 _ _ hx, T.o_Web.cl, T.n_Web_wants, webF_wants, lt, rfl, ⟨_, SqL.of (s1 _ _ e2)⟩, for_list (K := K) (a := lt) (xs := v2) (fun i σ H' => Same H H' ∧ ∃ us o2 o3 o4 o5 o6, σ = [some (.ref x), some (.ref pr), o2, o3, o4, o5, o6] ∧ H' pr = some (.lst us) ∧ DpAll K H' us ((wEds (ts.take i)).map prD)) ⟨s1, [], none, none, none, none, none, rfl, p1, .nil⟩ (fun i σ H' _ h => SqL.of (h.1 _ _ e2)) ?_ ?_⟩
    · rintro i v σ H2 hg ⟨s2, us, o2, o3, o4, o5, o6, rfl, p2, au⟩
      obtain ⟨d, hd, hdp⟩ := DpAll.get a2 hg
      obtain ⟨t, ht, rfl⟩ := getM hd
      obtain ⟨q, rfl, hq⟩ := dp_wn hdp
      refine ⟨q, _, rfl, Same.seqT s2 hq, rfl, _, _, rfl, _, _, rfl, _, _, rfl, rfl, ?_⟩
      refine ⟨_, rfl, rfl, _, rfl, ?_⟩
      have lus : us.length ≤ 200 := by
        rw [dp_len au]
        have := wEds_len (ts.take i)
        rw [List.length_take] at this
        omega
      have big : ∀ n, n ≤ 400 → n < sizeLine := fun n h => Nat.lt_of_le_of_lt h (by decide)
      have tk := tk1 ht
      cases hs : t.s with
      | lt =>
        refine if_pos_of (by decide +kernel) ?_
        refine s_app (a := t.i) (b := t.j) rfl rfl rfl p2 (big _ (by omega)) fun z H3 m3 k3 z3 p3 => ?_
        refine ⟨_, rfl, rfl, _, rfl, if_neg_of (by decide +kernel) ⟨k3 _ s2 np, _, _, _, _, _, _, rfl, p3, ?_⟩⟩
        rw [tk, wEds_snoc, List.map_append, show wEd t = [(t.i, t.j)] by unfold wEd; rw [hs]; rfl]
        exact DpAll.snoc (dp_pr z3) (m3.dpAll (pds_pr _).nl au)
      | le =>
        refine if_pos_of (by decide +kernel) ?_
        refine s_app (a := t.i) (b := t.j) rfl rfl rfl p2 (big _ (by omega)) fun z H3 m3 k3 z3 p3 => ?_
        refine ⟨_, rfl, rfl, _, rfl, if_neg_of (by decide +kernel) ⟨k3 _ s2 np, _, _, _, _, _, _, rfl, p3, ?_⟩⟩
        rw [tk, wEds_snoc, List.map_append, show wEd t = [(t.i, t.j)] by unfold wEd; rw [hs]; rfl]
        exact DpAll.snoc (dp_pr z3) (m3.dpAll (pds_pr _).nl au)
      | eq =>
        refine if_pos_of (by decide +kernel) ?_
        refine s_app (a := t.i) (b := t.j) rfl rfl rfl p2 (big _ (by omega)) fun z H3 m3 k3 z3 p3 => ?_
        refine ⟨_, rfl, rfl, _, rfl, if_pos_of (by decide +kernel) ?_⟩
        refine s_app (a := t.j) (b := t.i) rfl rfl rfl p3 (big _ (by rw [List.length_append, List.length_singleton]; omega)) fun z2 H4 m4 k4 z4 p4 => ?_
        refine ⟨k4 _ (k3 _ s2 np) np, _, _, _, _, _, _, rfl, p4, ?_⟩
        rw [tk, wEds_snoc, List.map_append, show wEd t = [(t.i, t.j), (t.j, t.i)] by unfold wEd; rw [hs]; rfl]
        have h1 := DpAll.snoc (dp_pr (K := K) z3) (m3.dpAll (pds_pr _).nl au)
        rw [show (wEds (ts.take i)).map prD ++ [prD (t.i, t.j)] = (wEds (ts.take i) ++ [(t.i, t.j)]).map prD by rw [List.map_append]; rfl] at h1
        have h2 := DpAll.snoc (dp_pr (K := K) z4) (m4.dpAll (pds_pr _).nl h1)
        rw [show (wEds (ts.take i)).map prD ++ [(t.i, t.j), (t.j, t.i)].map prD = (wEds (ts.take i) ++ [(t.i, t.j)]).map prD ++ [prD (t.j, t.i)] by simp]
        exact h2
      | ne =>
        refine if_neg_of (by decide +kernel) ?_
        refine ⟨_, rfl, rfl, _, rfl, if_neg_of (by decide +kernel) ⟨s2, _, _, _, _, _, _, rfl, p2, ?_⟩⟩
        rw [tk, wEds_snoc, List.map_append, show wEd t = [] by unfold wEd; rw [hs]; rfl, List.map_nil, List.append_nil]
        exact au
    · rintro σ H2 ⟨s2, us, o2, o3, o4, o5, o6, rfl, p2, au⟩
      rw [List.take_of_length_le (by rw [dp_len a2]; exact Nat.le_refl _)] at au
      refine ⟨_, rfl, _, _, _, _, _, rfl, s2 _ _ hx, T.o_Web.cl, T.n_Web_known, webF_known, kd, kn, rfl, .of (s2 _ _ e3), fun kl bs nkl hks => ?_⟩
      generalize eH3 : upd H2 kl _ = H3
      have s3 : Same H2 H3 := eH3 ▸ same_upd nkl
      have kl3 : H3 kl = some _ := eH3 ▸ upd_same
      have s03 := s2.trans s3
      have hmem := kn_mem a3
      have hVl : ∀ z ∈ kn.map (fun p => keyP p.1), Vl z := fun z hz => Vv.vl z ((hmem z).mp hz)
      refine ⟨kl, _, kn.map fun p => keyP p.1, rfl, SqL.of kl3, DpAll.same s3 (keys_dp hks a3.ky), hVl, (by rw [List.length_map]; have := a3.len; rw [List.length_map] at this; omega), fun ap ua H4 nap s4 ap4 dua hua => ?_⟩
      have hL : asc (kn.map fun p => keyP p.1) = asc (fxV ws) := asc_same (fun z hz => (hVl z hz).low) (fun z hz => (Vv.vl z (mem_fxV.mp hz)).low) fun z => (hmem z).trans mem_fxV.symm
      rw [hL] at dua
      have s04 := s03.trans s4
      have lua : ua.length = (asc (fxV ws)).length := dp_len dua
      have lasc : (asc (fxV ws)).length ≤ 100 := by
        have h1 := asc_len (fxV ws)
        have h2 : (fxV ws).length ≤ ws.length := List.length_filterMap_le _ _
        omega
      refine ⟨ap, rfl, ⟨_, SqL.of ap4⟩, fun rr nrr => ?_⟩
      have nra : rr ≠ ap := fun z => by rw [z, ap4] at nrr; cases nrr
      refine lc_it (walk_list (xs := ua)) (fun i H' => H' = upd H4 rr (.lst ((((asc (fxV ws)).take i).map (ixv ws)).map nv))) rfl (fun i H' _ h => by rw [h]; exact SqL.of (by rw [upd_ne (Ne.symm nra)]; exact ap4)) ?_ ?_
      · rintro i v H' H'' hi e ⟨rfl, hv⟩
        subst e
        obtain ⟨d, hd, hdp⟩ := DpAll.get dua hv
        obtain ⟨z, hz, rfl⟩ := getM hd
        obtain ⟨q, eq, hkq⟩ := keys_at (y := (v, z)) hks (hua (v, z) (by rw [hL]; exact List.mem_of_getElem? (List.getElem?_zip_eq_some.mpr ⟨hv, hz⟩))) a3.ky
        have eq : v = .ref q := eq
        subst eq
        have sr : Same H4 (upd H4 rr (.lst ((((asc (fxV ws)).take i).map (ixv ws)).map nv))) := same_upd nrr
        have hzw : some z ∈ ws := mem_fxV.mp ((asc_mem _ z).mp (List.mem_of_getElem? hz))
        refine ⟨rfl, tYes_of ⟨_, rfl, _, _, _, _, _, rfl, sr _ _ (s04 _ _ hx), T.o_Web.cl, T.n_Web_known, webF_known, _, rfl, _, nv (ixv ws z), rfl, ?_, _, upd_same, ?_, ?_⟩⟩
        · have hqt : (upd H4 rr (.lst ((((asc (fxV ws)).take i).map (ixv ws)).map nv))) q = some (.tup ((tk z.1 z.2).map kV)) := sr _ _ (s4 _ _ (s3 _ _ hkq))
          have := DGet.t (k := tk z.1 z.2) (sr _ _ (s04 _ _ e3)) hqt
          rw [a3.val z.1 z.2, idx_wo, (ixv_get hzw).1] at this
          exact this
        · rw [List.length_map, List.length_map, List.length_take]
          exact Nat.lt_of_le_of_lt (by omega : min i (asc (fxV ws)).length ≤ 100) (by decide)
        · rw [upd_upd, tk1 hz, List.map_append, List.map_append]
          rfl
      · rintro H5 e5
        rw [lua, List.take_length] at e5
        have s5 : Same H4 H5 := e5 ▸ same_upd nrr
        have rw5 : H5 rr = some (.lst ((rowN ws).map nv)) := e5 ▸ upd_same
        clear e5
        have s05 := s04.trans s5
        have p5 := s5 _ _ (s4 _ _ (s3 _ _ p2))
        refine ⟨_, rfl, _, rfl, _, rfl, 1, rfl, rr, _, rfl, SqL.of rw5, fun rs nrs => ?_⟩
        generalize eH6 : upd H5 rs _ = H6
        have s6 : Same H5 H6 := eH6 ▸ same_upd nrs
        have rs6 : H6 rs = some _ := eH6 ▸ upd_same
        have rw6 := s6 _ _ rw5
        have p6 := s6 _ _ p5
        refine ⟨rr, rs, _, _, rfl, SqL.of rw6, SqL.of rs6, fun H7 zp tz s7 nzp ntz hntz zp7 hpz => ?_⟩
        refine ⟨pr, zp, _, _, rfl, rfl, s7 _ _ p6, zp7, ?_, fun rp nrp => ?_⟩
        · have l1 := Paired.length hpz
          rw [List.length_map, l1, List.length_zip, List.length_map, dp_len au]
          have h2 := wEds_len ts
          have h3 : (rowN ws).length ≤ 100 := by unfold rowN; rw [List.length_map]; exact lasc
          exact Nat.le_trans (by omega : (wEds ts).length + min (rowN ws).length _ ≤ 300) (by decide)
        · skip
          generalize eH8 : upd H7 rp _ = H8
          have s8 : Same H7 H8 := eH8 ▸ same_upd nrp
          have rp8 : H8 rp = some _ := eH8 ▸ upd_same
          have s56 : Same H5 H7 := s6.trans s7
          refine hQ rp _ H8 ?_ ((s05.trans s56).trans s8) rp8 ?_
          · cases hh : H rp with
            | none => rfl
            | some ob => rw [(s05.trans s56) _ _ hh] at nrp; cases nrp
          · unfold edgesL
            rw [List.map_append]
            refine DpAll.app (DpAll.same s8 (DpAll.same s56 (DpAll.same s5 (DpAll.same s4 (DpAll.same s3 au))))) ?_
            refine DpAll.same s8 ?_
            have hc : cutV ((rowN ws).map nv) (some 1) none = ((rowN ws).drop 1).map nv := by rw [cut_one, List.map_drop]
            rw [hc] at hpz
            exact zip_dp hpz
end
end K23
namespace K23
open PySem PySem.Spec PyProof.Rows L2 He TL EL
/-! the rows of an edge list -/
def fo (es : List (Nat × Nat)) (u : Nat) : List Nat := (es.filter fun e => e.1 == u).map (·.2)
def fi (es : List (Nat × Nat)) (v : Nat) : List Nat := (es.filter fun e => e.2 == v).map (·.1)
theorem mem_fo {es : List (Nat × Nat)} {u v : Nat} : v ∈ fo es u ↔ (u, v) ∈ es := by
  unfold fo
  rw [List.mem_map]
  constructor
  · rintro ⟨e, h, rfl⟩
    obtain ⟨h1, h2⟩ := List.mem_filter.mp h
    have h2 : e.1 = u := beq_iff_eq.mp h2
    rw [← h2]
    exact h1
  · exact fun h => ⟨(u, v), List.mem_filter.mpr ⟨h, by simp⟩, rfl⟩
theorem mem_fi {es : List (Nat × Nat)} {u v : Nat} : u ∈ fi es v ↔ (u, v) ∈ es := by
  unfold fi
  rw [List.mem_map]
  constructor
  · rintro ⟨e, h, rfl⟩
    obtain ⟨h1, h2⟩ := List.mem_filter.mp h
    have h2 : e.2 = v := beq_iff_eq.mp h2
    rw [← h2]
    exact h1
  · exact fun h => ⟨(u, v), List.mem_filter.mpr ⟨h, by simp⟩, rfl⟩
theorem fo_snoc (es : List (Nat × Nat)) (e : Nat × Nat) (i : Nat) : fo (es ++ [e]) i = if i = e.1 then fo es i ++ [e.2] else fo es i := by
  unfold fo
  rw [List.filter_append, List.map_append]
  by_cases h : i = e.1
  · rw [if_pos h, List.filter_cons, if_pos (by simp [h])]; rfl
  · rw [if_neg h, List.filter_cons, if_neg (by simp; exact fun z => h z.symm)]; simp
theorem fi_snoc (es : List (Nat × Nat)) (e : Nat × Nat) (i : Nat) : fi (es ++ [e]) i = if i = e.2 then fi es i ++ [e.1] else fi es i := by
  unfold fi
  rw [List.filter_append, List.map_append]
  by_cases h : i = e.2
  · rw [if_pos h, List.filter_cons, if_pos (by simp [h])]; rfl
  · rw [if_neg h, List.filter_cons, if_neg (by simp; exact fun z => h z.symm)]; simp
def EOk (n : Nat) (es : List (Nat × Nat)) : Prop := ∀ e ∈ es, e.1 < n ∧ e.2 < n
def rowsG (n : Nat) (f : Nat → List Nat) : List (List Nat) := (List.range n).map f
theorem rowsG_len (n : Nat) (f : Nat → List Nat) : (rowsG n f).length = n := by unfold rowsG; rw [List.length_map, List.length_range]
theorem rowsG_at {n u : Nat} {f : Nat → List Nat} (h : u < n) : (rowsG n f)[u]? = some (f u) := by
  unfold rowsG
  rw [List.getElem?_map, List.getElem?_range h]
  rfl
theorem sc_rows {n : Nat} {f : Nat → List Nat} (h : ∀ u, n ≤ u → f u = []) : sc (rowsG n f) = f := by
  funext u
  by_cases hu : u < n
  · exact sc_at (rowsG_at hu)
  · unfold sc
    rw [List.getElem?_eq_none (by rw [rowsG_len]; omega), h u (by omega)]
    rfl
theorem fo_out {n : Nat} {es : List (Nat × Nat)} (h : EOk n es) (u : Nat) (hu : n ≤ u) : fo es u = [] := by
  apply List.eq_nil_iff_forall_not_mem.mpr
  intro v hv
  have := (h _ (mem_fo.mp hv)).1
  simp only at this
  omega
theorem fi_out {n : Nat} {es : List (Nat × Nat)} (h : EOk n es) (u : Nat) (hu : n ≤ u) : fi es u = [] := by
  apply List.eq_nil_iff_forall_not_mem.mpr
  intro v hv
  have := (h _ (mem_fi.mp hv)).2
  simp only at this
  omega
theorem gok_fo {n : Nat} {es : List (Nat × Nat)} (h : EOk n es) : Gok (rowsG n (fo es)) := fun l hl v hv => by
  obtain ⟨u, _, rfl⟩ := List.mem_map.mp hl
  rw [rowsG_len]
  exact (h _ (mem_fo.mp hv)).2
theorem gok_fi {n : Nat} {es : List (Nat × Nat)} (h : EOk n es) : Gok (rowsG n (fi es)) := fun l hl v hv => by
  obtain ⟨u, _, rfl⟩ := List.mem_map.mp hl
  rw [rowsG_len]
  exact (h _ (mem_fi.mp hv)).1
theorem eok_edges {ws : List (Option (Int × Int))} {ts : List Wn} (Vv : Wv ws ts) : EOk ws.length (edgesL ws ts) := by
  intro e he
  have hrow : ∀ k ∈ rowN ws, k < ws.length := fun k hk => by
    obtain ⟨v, hv, rfl⟩ := List.mem_map.mp hk
    exact (List.getElem?_eq_some_iff.mp (ixv_get (mem_fxV.mp ((asc_mem _ v).mp hv))).2).1
  rcases List.mem_append.mp he with h | h
  · obtain ⟨t, ht, he⟩ := List.mem_flatMap.mp h
    obtain ⟨h1, h2⟩ := Vv.tb t ht
    unfold wEd at he
    rcases List.mem_append.mp he with h | h
    · split at h
      · cases h
      · rw [List.mem_singleton.mp h]; exact ⟨h1, h2⟩
    · split at h
      · rw [List.mem_singleton.mp h]; exact ⟨h2, h1⟩
      · cases h
  · obtain ⟨a, b⟩ := e
    obtain ⟨ha, hb⟩ := List.of_mem_zip h
    exact ⟨hrow a ha, hrow b (List.mem_of_mem_drop hb)⟩
/-! the addresses of the rows -/
def AdF (H : Hp) (as : List Addr) (f : Nat → List Nat) : Prop := ∀ (i : Nat) (a : Addr), as[i]? = some a → H a = some (.lst ((f i).map nv))
theorem AdF.off {H : Hp} {as : List Addr} {f : Nat → List Nat} (h : AdF H as f) {a : Addr} {o : HO} (n : a ∉ as) : AdF (upd H a o) as f := fun i b hb => by
  rw [upd_ne (fun z : b = a => n (by rw [← z]; exact List.mem_of_getElem? hb))]
  exact h i b hb
theorem AdF.put {H : Hp} {as : List Addr} {f g : Nat → List Nat} (h : AdF H as f) (nd : as.Nodup) {u v : Nat} {a : Addr} (ha : as[u]? = some a) (hg : ∀ i, g i = if i = u then f i ++ [v] else f i) : AdF (upd H a (.lst ((f u).map nv ++ [nv v]))) as g := fun i b hb => by
  by_cases e : i = u
  · subst e
    rw [ha] at hb
    cases hb
    rw [upd_same, hg, if_pos rfl, List.map_append]
    rfl
  · rw [upd_ne (fun z => e (by
      subst z
      exact (List.getElem?_inj (List.getElem?_eq_some_iff.mp hb).1 nd).mp (hb.trans ha.symm))), hg, if_neg e]
    exact h i b hb
theorem AdF.gr {K : PySem.W.Frag} {H : Hp} {as : List Addr} {f : Nat → List Nat} {n : Nat} {af : Addr} (h : AdF H as f) (hl : as.length = n) (ha : H af = some (.lst (as.map V.ref))) : Gr K H af (rowsG n f) := by
  refine ⟨as, ha, by rw [hl, rowsG_len], fun i a l h1 h2 => ?_⟩
  have hi : i < n := by rw [← hl]; exact (List.getElem?_eq_some_iff.mp h1).1
  rw [rowsG_at hi] at h2
  cases h2
  exact h i a h1
def badP (ws : List (Option (Int × Int))) (ts : List Wn) (ps : List Int) : Prop := (∃ t ∈ ts, (t.s = .lt ∨ t.s = .ne) ∧ pva ps t.i = pva ps t.j) ∨ ∃ (i j : Nat) (v w : Int × Int), i ≠ j ∧ ws[i]? = some (some v) ∧ ws[j]? = some (some w) ∧ pva ps i = pva ps j
section
variable {P : Program} {w : World} {K : PySem.W.Frag} {mg : Str → Option Value} {base : Heap}
/-- n new empty lists in a new list -/
def News (H0 H' : Hp) (L : Addr) (as : List Addr) : Prop := H' L = some (.lst (as.map V.ref)) ∧ as.Nodup ∧ (∀ a ∈ as, H0 a = none ∧ a ≠ L ∧ H' a = some (.lst [])) ∧ Same H0 H'
theorem News.snoc {H0 H' : Hp} {L p : Addr} {as : List Addr} (N : News H0 H' L as) (hL : H0 L = none) (np : H' p = none) : News H0 (upd (upd H' p (.lst [])) L (.lst (as.map V.ref ++ [.ref p]))) L (as ++ [p]) := by
  obtain ⟨h1, h2, h3, h4⟩ := N
  have npL : p ≠ L := fun z => by rw [z, h1] at np; cases np
  have np0 : H0 p = none := by
    cases hh : H0 p with
    | none => rfl
    | some ob => rw [h4 _ _ hh] at np; cases np
  have npa : p ∉ as := fun z => by rw [(h3 p z).2.2] at np; cases np
  refine ⟨by rw [List.map_append]; exact upd_same, ?_, fun a ha => ?_, same_upN (h4.trans (same_upd np)) hL⟩
  · exact List.nodup_append.mpr ⟨h2, by simp, fun a ha b hb => by rw [List.mem_singleton.mp hb]; exact fun z => npa (z ▸ ha)⟩
  · rcases List.mem_append.mp ha with ha | ha
    · obtain ⟨k1, k2, k3⟩ := h3 a ha
      exact ⟨k1, k2, by rw [upd_ne k2, upd_ne (fun z : a = p => npa (z ▸ ha))]; exact k3⟩
    · rw [List.mem_singleton.mp ha]
      exact ⟨np0, npL, by rw [upd_ne npL]; exact upd_same⟩
theorem News.nil {H0 : Hp} {L : Addr} (hL : H0 L = none) : News H0 (upd H0 L (.lst [])) L [] := ⟨upd_same, by simp, fun a ha => (by cases ha), same_upd hL⟩
def spParts (K : PySem.W.Frag) : Sp := fun vs H Q _ => ∃ x dx lw lt kd ws ts, vs = [.ref x] ∧ Wb K H x dx lw lt kd (ws.map woD) (ts.map wnD) ∧ Wv ws ts ∧ ws.length ≤ 100 ∧ ts.length ≤ 100 ∧
  ∀ ps c, Pt ws.length (fo (edgesL ws ts)) ps c → (∀ v, v < ws.length → 0 ≤ pva ps v) →
    (badP ws ts ps → ∀ H', Same H H' → Q .non H') ∧ (¬ badP ws ts ps → ∀ p H', H p = none → Same H H' → H' p = some (.lst (ps.map V.int)) → Q (.ref p) H')
theorem d_parts (T : Txt K mg) : FnR P w K mg base CX0 4 (ma K (ga K "Web") "parts") (spParts K) := by
  obtain ⟨fd, F⟩ := T.f_Web_parts
  have D_parts_of := d_parts_of (P := P) (w := w) (base := base) T
  have D_edges := d_edges (P := P) (w := w) (base := base) T
  refine fnN F (fun _ _ _ _ _ _ us hl => match us, hl with | [_], _ => rfl) sc_Web_parts (fun vs H Q E h => ?_) (fun cdv A outer s H vs Q E hr h => ?_)
  · obtain ⟨x, dx, lw, lt, kd, ws, ts, rfl, _⟩ := h
    rfl
  · obtain ⟨x, dx, lw, lt, kd, ws, ts, rfl, W, Vv, hl1, hl2, hQ⟩ := h
    refine ⟨_, PSs.nox (pss_cons (ps_setLc (i := 1) (own := [("worth", 2)]) (tt := tYes) (by rfl) sc_Web_parts.nd rfl rfl (sw_true rfl rfl rfl (by decide +kernel)) (pi_list (pe_fld (pv 0) rfl)) (blkOk_by (own := [("worth", 2)]) (N := ["self", "after", "worth", "before", "one", "other", "part", "sign", "taken", "number"]) (sc := defScope s_Web_parts) (by decide +kernel)) (fun _ _ _ _ _ => (pg_name (i := 2) sc_Web_parts.nd rfl (.inl rfl))) (fun _ _ _ _ _ => pts_nil) (fun _ _ _ _ _ => (pe_lst pa_nil)))
      (pss_cons (ps_setLc (i := 3) (own := [("worth", 2)]) (tt := tYes) (by rfl) sc_Web_parts.nd rfl rfl (sw_true rfl rfl rfl (by decide +kernel)) (pi_list (pe_fld (pv 0) rfl)) (blkOk_by (own := [("worth", 2)]) (N := ["self", "after", "worth", "before", "one", "other", "part", "sign", "taken", "number"]) (sc := defScope s_Web_parts) (by decide +kernel)) (fun _ _ _ _ _ => (pg_name (i := 2) sc_Web_parts.nd rfl (.inl rfl))) (fun _ _ _ _ _ => pts_nil) (fun _ _ _ _ _ => (pe_lst pa_nil)))
      (pss_cons (ps_for PassesOwn.never rfl (pi_list (pe_methE0 (pv 0) T.o_Web.cl T.h_Web_edges D_edges (hr.mono (by decide)) px0)) (pg_tup rfl (pgs_cons (pg_name (i := 4) sc_Web_parts.nd rfl (.inl rfl)) (pgs_cons (pg_name (i := 5) sc_Web_parts.nd rfl (.inl rfl)) pgs_nil)))
      (pss_cons (ps_expr (pe_bm PySem.F.plainAttrs_list PySem.F.slot_list_append PySem.F.type_list_append mt_append (pe_ix ix_list (pv 1) (pv 4) (fun _ _ => rfl)) (pa_cons (pv 5) pa_nil)))
      (pss_one (ps_expr (pe_bm PySem.F.plainAttrs_list PySem.F.slot_list_append PySem.F.type_list_append mt_append (pe_ix ix_list (pv 3) (pv 5) (fun _ _ => rfl)) (pa_cons (pv 4) pa_nil))))))
      (pss_cons (ps_set (i := 6) sc_Web_parts.nd rfl (.inl rfl) (cl D_parts_of (hr.mono (by decide)) (pa_cons (pv 1) (pa_cons (pv 3) pa_nil))))
      (pss_cons (ps_for PassesOwn.never rfl (pi_list (pe_fld (pv 0) rfl)) (pg_tup rfl (pgs_cons (pg_name (i := 7) sc_Web_parts.nd rfl (.inl rfl)) (pgs_cons (pg_name (i := 4) sc_Web_parts.nd rfl (.inl rfl)) (pgs_cons (pg_name (i := 5) sc_Web_parts.nd rfl (.inl rfl)) pgs_nil))))
      (pss_one (ps_if (PW.pt (pw_and (pt_cmpR op_in_seq (pv 7) (pe_tup (pa_cons pe_str (pa_cons pe_str pa_nil))) (by rfl)) (pw_and1 (pt_cmpR op_eq (pe_ix ix_list (pv 6) (pv 4) (fun _ _ => rfl)) (pe_ix ix_list (pv 6) (pv 5) (fun _ _ => rfl)) (nomark _))))) (pss_one (ps_ret pe_non)) pss_nil)))
      (pss_cons (ps_set (i := 8) sc_Web_parts.nd rfl (.inl rfl) pe_dnewK)
      (pss_cons (ps_lock (ps_for PassesOwn.never rfl (ZI.pi_items (pe_fld (pv 0) rfl)) (pg_tup rfl (pgs_cons (pg_name (i := 2) sc_Web_parts.nd rfl (.inl rfl)) (pgs_cons (pg_name (i := 9) sc_Web_parts.nd rfl (.inl rfl)) pgs_nil)))
      (pss_cons (ps_if (pt_cmp (pc_din (hu_of hr) (pe_ix ix_list (pv 6) (pv 9) (fun _ _ => rfl)) (pv 8))) (pss_one (ps_ret pe_non)) pss_nil)
      (pss_one (ps_dput (hu_of hr) (pv 8) (pe_ix ix_list (pv 6) (pv 9) (fun _ _ => rfl)) (pv 2) rfl)))))
      (pss_one (ps_ret (pv 6)))))))))), ?_⟩
    obtain ⟨hx, ⟨v1, e1, a1⟩, ⟨v2, e2, a2⟩, ⟨kn, e3, a3⟩, pw, pd⟩ := id W
    have lv1 : v1.length = ws.length := dp_len a1
    have big : ∀ {n : Nat}, n ≤ 1000 → n < sizeLine := fun h => Nat.lt_of_le_of_lt h (by decide)
    refine ⟨_, rfl, _, _, _, _, _, rfl, hx, T.o_Web.cl, T.n_Web_worths, webF_worths, lw, rfl, ⟨_, SqL.of e1⟩, fun af nf => ?_⟩
    refine lc_it (walk_list (xs := v1)) (fun i H' => ∃ as, News H H' af as ∧ as.length = i) ⟨[], News.nil nf, rfl⟩ (fun i H' _ h => ?_) ?_ ?_
    · obtain ⟨as, N, _⟩ := h
      exact SqL.of (N.2.2.2 _ _ e1)
    · rintro i v H' H'' hi ⟨as, N, hl⟩ ⟨rfl, hv⟩
      refine ⟨rfl, tYes_of ⟨(by show 0 ≤ sizeLine; decide), fun p np => ⟨_, same_upd np _ _ N.1, (by rw [List.length_map, hl]; exact big (by omega)), as ++ [p], N.snoc nf np, (by rw [List.length_append, hl]; rfl)⟩⟩⟩
    · rintro H1 ⟨as, N1, hla⟩
      rw [lv1] at hla
      have s1 := N1.2.2.2
      refine ⟨_, rfl, _, _, _, _, _, rfl, s1 _ _ hx, T.o_Web.cl, T.n_Web_worths, webF_worths, lw, rfl, ⟨_, SqL.of (s1 _ _ e1)⟩, fun bf nf2 => ?_⟩
      refine lc_it (walk_list (xs := v1)) (fun i H' => ∃ bs, News H1 H' bf bs ∧ bs.length = i) ⟨[], News.nil nf2, rfl⟩ (fun i H' _ h => ?_) ?_ ?_
      · obtain ⟨as, N, _⟩ := h
        exact SqL.of (N.2.2.2 _ _ (s1 _ _ e1))
      · rintro i v H' H'' hi ⟨bs, N, hl⟩ ⟨rfl, hv⟩
        refine ⟨rfl, tYes_of ⟨(by show 0 ≤ sizeLine; decide), fun p np => ⟨_, same_upd np _ _ N.1, (by rw [List.length_map, hl]; exact big (by omega)), bs ++ [p], N.snoc nf2 np, (by rw [List.length_append, hl]; rfl)⟩⟩⟩
      · rintro H2 ⟨bs, N2, hlb⟩
        rw [lv1] at hlb
        have s2 := N2.2.2.2
        have s02 := s1.trans s2
        have af2 := s2 _ _ N1.1
        refine ⟨_, rfl, _, _, _, rfl, s02 _ _ hx, webF_no (by decide) (by decide) (by decide), ?_⟩
        refine ⟨x, dx, lw, lt, kd, ws, ts, rfl, W.same s02, Vv, hl1, hl2, fun el ue H3 ne3 s3 el3 due => ?_⟩
        have s03 := s02.trans s3
        have hE := eok_edges Vv
        have lue : ue.length = (edgesL ws ts).length := dp_len due
        have lel : (edgesL ws ts).length ≤ 300 := by
          unfold edgesL
          rw [List.length_append, List.length_zip]
          have h2 := wEds_len ts
          have h3 : (rowN ws).length ≤ 100 := by
            unfold rowN
            rw [List.length_map]
            have h1 := asc_len (fxV ws)
            have h2 : (fxV ws).length ≤ ws.length := List.length_filterMap_le _ _
            omega
          omega
        have A3 : AdF H3 as (fo []) := fun i a ha => s3 _ _ (s2 _ _ (N1.2.2.1 a (List.mem_of_getElem? ha)).2.2)
        have B3 : AdF H3 bs (fi []) := fun i a ha => s3 _ _ (N2.2.2.1 a (List.mem_of_getElem? ha)).2.2
        have fra : ∀ a ∈ as, H a = none := fun a ha => (N1.2.2.1 a ha).1
        have frb : ∀ a ∈ bs, H a = none := fun a ha => by
          cases hh : H a with
          | none => rfl
          | some ob => have := (N2.2.2.1 a ha).1; rw [s1 _ _ hh] at this; cases this
        have dis : ∀ a ∈ as, a ∉ bs := fun a ha hb => by
          have h1 := (N2.2.2.1 a hb).1
          rw [(N1.2.2.1 a ha).2.2] at h1
          cases h1
        have naf : af ∉ as ∧ af ∉ bs := ⟨fun z => (N1.2.2.1 af z).2.1 rfl, fun z => (by have h1 := (N2.2.2.1 af z).1; rw [N1.1] at h1; cases h1)⟩
        have nbf : bf ∉ as ∧ bf ∉ bs := ⟨fun z => (by have h1 := (N1.2.2.1 bf z).2.2; rw [h1] at nf2; cases nf2), fun z => (N2.2.2.1 bf z).2.1 rfl⟩
        have nel : el ∉ as ∧ el ∉ bs := ⟨fun z => (by rw [s2 _ _ (N1.2.2.1 el z).2.2] at ne3; cases ne3), fun z => (by rw [(N2.2.2.1 el z).2.2] at ne3; cases ne3)⟩
        have nda := N1.2.1
        have ndb := N2.2.1
        have af3 := s3 _ _ af2
        have bf3 := s3 _ _ N2.1
        clear N1 N2
        refine ⟨el, rfl, ⟨_, SqL.of el3⟩, for_list (K := K) (a := el) (xs := ue) (fun i σ H' => (∃ o4 o5 o6 o7 o8 o9, σ = [some (.ref x), some (.ref af), none, some (.ref bf), o4, o5, o6, o7, o8, o9]) ∧ Same H H' ∧ Md (as ++ bs) H3 H' ∧ AdF H' as (fo ((edgesL ws ts).take i)) ∧ AdF H' bs (fi ((edgesL ws ts).take i))) ⟨⟨_, _, _, _, _, _, rfl⟩, s03, .refl _ _, A3, B3⟩ (fun i σ H' _ h => SqL.of (h.2.2.1.out _ _ el3 (by simp [nel]))) ?_ ?_⟩
        · rintro i v σ H4 hg ⟨⟨o4, o5, o6, o7, o8, o9, rfl⟩, s04, m4, A4, B4⟩
          obtain ⟨d, hd, hdp⟩ := DpAll.get due hg
          obtain ⟨e, he, rfl⟩ := getM hd
          obtain ⟨u, w'⟩ := e
          obtain ⟨hu, hw⟩ := hE (u, w') (List.mem_of_getElem? he)
          have hu : u < ws.length := hu
          have hw : w' < ws.length := hw
          obtain ⟨q, rfl, hq⟩ := dp_val (x := ((u : Int), (w' : Int))) hdp
          obtain ⟨a, ha⟩ : ∃ a, as[u]? = some a := ⟨_, List.getElem?_eq_getElem (by omega)⟩
          obtain ⟨b, hb⟩ : ∃ b, bs[w']? = some b := ⟨_, List.getElem?_eq_getElem (by omega)⟩
          have ha4 := A4 u a ha
          have ham := List.mem_of_getElem? ha
          have hbm := List.mem_of_getElem? hb
          have af4 := m4.out _ _ af3 (by simp [naf])
          have lt4 : (fo ((edgesL ws ts).take i) u).length ≤ 300 := by
            unfold fo
            rw [List.length_map]
            exact Nat.le_trans (List.length_filter_le _ _) (by rw [List.length_take]; omega)
          have lt5 : (fi ((edgesL ws ts).take i) w').length ≤ 300 := by
            unfold fi
            rw [List.length_map]
            exact Nat.le_trans (List.length_filter_le _ _) (by rw [List.length_take]; omega)
          refine ⟨q, _, rfl, m4.sqT hq, rfl, _, _, rfl, _, _, rfl, rfl, ?_⟩
          refine ⟨_, rfl, _, rfl, _, _, _, _, rfl, rfl, SqL.of af4, atI_nat (mapAt ha), .inl ⟨rfl, _, SqL.of ha4⟩, _, rfl, a, _, _, rfl, rfl, ha4, (by rw [List.length_map]; exact big (by omega)), ?_⟩
          have tk := tk1 he
          generalize eH5 : upd H4 a _ = H5
          have A5 : AdF H5 as (fo ((edgesL ws ts).take (i + 1))) := by rw [← eH5]; exact A4.put nda ha fun j => by rw [tk, fo_snoc]
          have B5 : AdF H5 bs (fi ((edgesL ws ts).take i)) := by rw [← eH5]; exact B4.off (dis a ham)
          have m5 : Md (as ++ bs) H3 H5 := by rw [← eH5]; exact m4.trans (Md.upd ha4 rfl (by simp [ham]))
          have s05 : Same H H5 := by rw [← eH5]; exact same_upN s04 (fra a ham)
          have hb5 := B5 w' b hb
          have bf5 := m5.out _ _ bf3 (by simp [nbf])
          refine ⟨_, rfl, _, rfl, _, _, _, _, rfl, rfl, SqL.of bf5, atI_nat (mapAt hb), .inl ⟨rfl, _, SqL.of hb5⟩, _, rfl, b, _, _, rfl, rfl, hb5, (by rw [List.length_map]; exact big (by omega)), ?_⟩
          exact ⟨⟨_, _, _, _, _, _, rfl⟩, same_upN s05 (frb b hbm), m5.trans (Md.upd hb5 rfl (by simp [hbm])), A5.off (fun z => dis b z hbm), B5.put ndb hb fun j => by rw [tk, fi_snoc]⟩
        · rintro σ H4 ⟨⟨o4, o5, o6, o7, o8, o9, rfl⟩, s04, m4, A4, B4⟩
          rw [lue, List.take_length] at A4 B4
          have af4 := m4.out _ _ af3 (by simp [naf])
          have bf4 := m4.out _ _ bf3 (by simp [nbf])
          have eS : sc (rowsG ws.length (fo (edgesL ws ts))) = fo (edgesL ws ts) := sc_rows (fo_out hE)
          refine ⟨_, rfl, _, rfl, af, bf, rowsG ws.length (fo (edgesL ws ts)), rowsG ws.length (fi (edgesL ws ts)), rfl, A4.gr hla af4, B4.gr hlb bf4, gok_fo hE, gok_fi hE, by rw [rowsG_len, rowsG_len], fun u v => by rw [eS, sc_rows (fi_out hE)]; exact mem_fo.trans mem_fi.symm, by rw [rowsG_len]; exact hl1, fun pt ps c H5 npt s5 pt5 Pp hall => ?_⟩
          rw [rowsG_len] at Pp hall
          rw [eS] at Pp
          obtain ⟨hbad, hgood⟩ := hQ ps c Pp hall
          have s05 := s04.trans s5
          have npt0 : H pt = none := by
            cases hh : H pt with
            | none => rfl
            | some ob => rw [s04 _ _ hh] at npt; cases npt
          have lps := Pp.len
          clear A3 B3 A4 B4 m4 fra frb dis naf nbf nel nda ndb af3 bf3 af4 bf4 hla hlb due lue el3 eS
          refine ⟨_, rfl, _, _, _, _, _, rfl, s05 _ _ hx, T.o_Web.cl, T.n_Web_wants, webF_wants, lt, rfl, ⟨_, SqL.of (s05 _ _ e2)⟩, for_list (K := K) (a := lt) (xs := v2) (fun i σ H' => (∃ o4 o5 o7 o8 o9, σ = [some (.ref x), some (.ref af), none, some (.ref bf), o4, o5, some (.ref pt), o7, o8, o9]) ∧ Same H H' ∧ H' pt = some (.lst (ps.map V.int)) ∧ ∀ t ∈ ts.take i, ¬ ((t.s = .lt ∨ t.s = .ne) ∧ pva ps t.i = pva ps t.j)) ⟨⟨_, _, _, _, _, rfl⟩, s05, pt5, by simp⟩ (fun i σ H' _ h => SqL.of (h.2.1 _ _ e2)) ?_ ?_⟩
          · rintro i v σ H6 hg ⟨⟨o4, o5, o7, o8, o9, rfl⟩, s06, pt6, hno⟩
            obtain ⟨d, hd, hdp⟩ := DpAll.get a2 hg
            obtain ⟨t, ht, rfl⟩ := getM hd
            obtain ⟨q, rfl, hq⟩ := dp_wn hdp
            obtain ⟨hti, htj⟩ := Vv.tb t (List.mem_of_getElem? ht)
            refine ⟨q, _, rfl, Same.seqT s06 hq, rfl, _, _, rfl, _, _, rfl, _, _, rfl, rfl, ?_⟩
            refine ⟨_, rfl, (by show 2 ≤ sizeLine; decide), fun p np => ?_⟩
            generalize eH7 : upd H6 p _ = H7
            have s7 : Same H6 H7 := eH7 ▸ same_upd np
            have p7 : H7 p = some _ := eH7 ▸ upd_same
            have s07 := s06.trans s7
            have pt7 := s7 _ _ pt6
            have tk := tk1 ht
            have fin : (¬ ((t.s = .lt ∨ t.s = .ne) ∧ pva ps t.i = pva ps t.j)) → ∀ t' ∈ ts.take (i + 1), ¬ ((t'.s = .lt ∨ t'.s = .ne) ∧ pva ps t'.i = pva ps t'.j) := fun h t' ht' => by
              rw [tk] at ht'
              rcases List.mem_append.mp ht' with h' | h'
              · exact hno t' h'
              · rw [List.mem_singleton.mp h']; exact h
            refine ⟨p, _, rfl, .inr (SqT.of p7), rfl, rfl, _, rfl, ?_⟩
            by_cases hs : t.s = .lt ∨ t.s = .ne
            · refine if_pos_of (by rcases hs with hs | hs <;> rw [hs] <;> decide +kernel) ?_
              refine ⟨_, rfl, _, rfl, _, _, _, _, rfl, rfl, SqL.of pt7, atI_nat (mapAt (pv_get (by omega))), _, rfl, _, rfl, _, _, _, _, rfl, rfl, SqL.of pt7, atI_nat (mapAt (pv_get (by omega))), rfl, _, rfl, ?_⟩
              by_cases hp : pva ps t.i = pva ps t.j
              · refine if_pos_of (by show decide (V.int _ = V.int _) = true; rw [hp]; exact decide_eq_true rfl) ?_
                exact hbad (.inl ⟨t, List.mem_of_getElem? ht, hs, hp⟩) H7 s07
              · refine if_neg_of (by show decide (V.int _ = V.int _) = false; exact decide_eq_false fun z => hp (V.int.inj z)) ?_
                exact ⟨⟨_, _, _, _, _, rfl⟩, s07, pt7, fin fun z => hp z.2⟩
            · have h2 : t.s = .le ∨ t.s = .eq := by
                cases h : t.s with
                | lt => exact absurd (.inl h) hs
                | le => exact .inl rfl
                | eq => exact .inr rfl
                | ne => exact absurd (.inr h) hs
              refine if_neg_of (by rcases h2 with h | h <;> rw [h] <;> decide +kernel) ?_
              exact ⟨⟨_, _, _, _, _, rfl⟩, s07, pt7, fin fun z => hs z.1⟩
          · rintro σ H6 ⟨⟨o4, o5, o7, o8, o9, rfl⟩, s06, pt6, hno⟩
            rw [List.take_of_length_le (by rw [dp_len a2]; exact Nat.le_refl _)] at hno
            intro td ntd
            generalize eH7 : upd H6 td _ = H7
            have s7 : Same H6 H7 := eH7 ▸ same_upd ntd
            have td7 : H7 td = some _ := eH7 ▸ upd_same
            have s07 := s06.trans s7
            have pt7 := s7 _ _ pt6
            have ntd0 : H td = none := by
              cases hh : H td with
              | none => rfl
              | some ob => rw [s06 _ _ hh] at ntd; cases ntd
            have ntk : td ≠ kd := fun z => by rw [z, e3] at ntd0; cases ntd0
            have npk : pt ≠ kd := fun z => by rw [z, e3] at npt0; cases npt0
            have ntp : td ≠ pt := fun z => by rw [z, pt6] at ntd; cases ntd
            have nxk := W.ne1.2.2.1
            refine ⟨kd, _, s07 _ _ e3, trivial, fun od => ?_⟩
            generalize eH8 : upd H7 kd _ = H8
            have k8 : H8 kd = some (.frz od (.dT kn)) := eH8 ▸ upd_same
            have oth : ∀ b o, b ≠ kd → H b = some o → H8 b = some o := fun b o hb h => by rw [← eH8, upd_ne hb]; exact s07 _ _ h
            have pt8 : H8 pt = some (.lst (ps.map V.int)) := by rw [← eH8, upd_ne npk]; exact pt7
            have td8 : H8 td = some (.dK []) := by rw [← eH8, upd_ne ntk]; exact td7
            clear eH8
            have unl : ∀ {H' : Hp}, (∀ b o, b ≠ kd → H b = some o → H' b = some o) → Same H (upd H' kd (.dT kn)) := fun {H'} h b o hb => by
              by_cases e : b = kd
              · subst e
                rw [upd_same, ← e3, hb]
              · rw [upd_ne e]
                exact h b o e hb
            have num : ∀ (j : Nat) k v, kn[j]? = some (k, v) → v = nv (ixv ws (keyP k)) ∧ some (keyP k) ∈ ws := fun j k v h => by
              have hm := List.mem_of_getElem? h
              obtain ⟨a, b, ek⟩ := a3.ky _ hm
              have ek : k = tk a b := ek
              have hz : some (a, b) ∈ ws := (kn_mem a3 (a, b)).mp (List.mem_map.mpr ⟨_, hm, by rw [ek]; rfl⟩)
              have h1 := valV_at a3.nd h
              rw [ek, a3.val a b, idx_wo, (ixv_get hz).1] at h1
              have : keyP k = (a, b) := by rw [ek]; rfl
              rw [this]
              exact ⟨(Option.some.inj h1).symm, hz⟩
            have lkn : kn.length ≤ 100 := by have := a3.len; rw [List.length_map] at this; omega
            let ns := kn.map fun p => pva ps (ixv ws (keyP p.1))
            have nsat : ∀ (j : Nat) k v, kn[j]? = some (k, v) → ns[j]? = some (pva ps (ixv ws (keyP k))) := fun j k v h => mapAt (f := fun p : List Key × V => pva ps (ixv ws (keyP p.1))) h
            refine ⟨_, rfl, _, _, _, _, _, rfl, oth _ _ nxk hx, T.o_Web.cl, T.n_Web_known, webF_known, kd, _, kn, rfl, k8, for_it ZI.walk (fun i σ H' => (∃ o2 o4 o5 o7 o9, σ = [some (.ref x), some (.ref af), o2, some (.ref bf), o4, o5, some (.ref pt), o7, some (.ref td), o9]) ∧ (∀ b o, b ≠ kd → H b = some o → H' b = some o) ∧ H' kd = some (.frz od (.dT kn)) ∧ H' pt = some (.lst (ps.map V.int)) ∧ (ns.take i).Nodup ∧ ∃ kvs, H' td = some (.dK kvs) ∧ kvs.length ≤ i ∧ ∀ z : Int, valV kvs (.inl z) ≠ none ↔ z ∈ ns.take i) ⟨⟨_, _, _, _, _, rfl⟩, oth, k8, pt8, (by simp), [], td8, Nat.le_refl _, fun z => by simp [valV]⟩ (fun i σ H' _ h => h.2.2.1) ?_ ?_⟩
            · rintro i v σ H9 H10 hi ⟨⟨o2, o4, o5, o7, o9, rfl⟩, oth9, k9, pt9, hnd, kvs, td9, lk, hz⟩ ⟨tt, k, vv, q, hkv, hq, rfl, ntt, rfl⟩
              obtain ⟨rfl, hkw⟩ := num i k vv hkv
              have hn := ixv_get hkw
              have hnl : ixv ws (keyP k) < ps.length := by rw [lps]; exact (List.getElem?_eq_some_iff.mp hn.2).1
              have sA : Same H9 (upd H9 tt (.tup [.ref q, nv (ixv ws (keyP k))])) := same_upd ntt
              generalize eA : upd H9 tt _ = HA at sA
              have tA : HA tt = some (.tup [.ref q, nv (ixv ws (keyP k))]) := eA ▸ upd_same
              clear eA
              have othA : ∀ b o, b ≠ kd → H b = some o → HA b = some o := fun b o hb h => sA _ _ (oth9 b o hb h)
              have tdA := sA _ _ td9
              have ptA := sA _ _ pt9
              refine ⟨tt, _, rfl, SqT.of tA, rfl, _, _, rfl, _, _, rfl, rfl, ?_⟩
              refine ⟨_, rfl, _, rfl, _, _, _, _, rfl, rfl, SqL.of ptA, atI_nat (mapAt (pv_get hnl)), _, rfl, _, _, rfl, DGet.k (k := .inl (pva ps (ixv ws (keyP k)))) tdA, _, rfl, ?_⟩
              have hk : k = tk (keyP k).1 (keyP k).2 := by
                obtain ⟨a, b, ek⟩ := a3.ky _ (List.mem_of_getElem? hkv)
                have ek : k = tk a b := ek
                rw [ek]
                rfl
              by_cases hin : pva ps (ixv ws (keyP k)) ∈ ns.take i
              · refine if_pos_of (by
                  show (valV kvs (.inl (pva ps (ixv ws (keyP k))))).isSome = true
                  have := (hz _).mpr hin
                  cases h : valV kvs (.inl (pva ps (ixv ws (keyP k)))) with
                  | none => exact absurd h this
                  | some _ => rfl) ?_
                obtain ⟨j, hj⟩ := List.getElem?_of_mem hin
                have hji : j < i := by
                  have := (List.getElem?_eq_some_iff.mp hj).1
                  rw [List.length_take] at this
                  omega
                rw [List.getElem?_take_of_lt hji] at hj
                obtain ⟨⟨k', v'⟩, hk', ek'⟩ := getM hj
                obtain ⟨_, hkw'⟩ := num j k' v' hk'
                have hn' := ixv_get hkw'
                have hne : ixv ws (keyP k') ≠ ixv ws (keyP k) := fun z => by
                  rw [z, hn.2] at hn'
                  have e1 : keyP k = keyP k' := Option.some.inj (Option.some.inj hn'.2)
                  have hkk : k' = tk (keyP k').1 (keyP k').2 := by
                    obtain ⟨a, b, ek⟩ := a3.ky _ (List.mem_of_getElem? hk')
                    have ek : k' = tk a b := ek
                    rw [ek]
                    rfl
                  have e2 : k' = k := by rw [hkk, hk, e1]
                  have h1 : (kn.map (·.1))[j]? = some k' := mapAt hk'
                  have h2 : (kn.map (·.1))[i]? = some k := mapAt hkv
                  have := (List.getElem?_inj (j := i) (List.getElem?_eq_some_iff.mp h1).1 a3.nd).mp (by rw [h1, h2, e2])
                  omega
                exact ⟨sA _ _ k9, hbad (.inr ⟨_, _, _, _, hne, hn'.2, hn.2, ek'⟩) _ (unl othA)⟩
              · have hno2 : valV kvs (.inl (pva ps (ixv ws (keyP k)))) = none := by
                  cases h : valV kvs (.inl (pva ps (ixv ws (keyP k)))) with
                  | none => rfl
                  | some u => exact absurd ((hz _).mp (by rw [h]; simp)) hin
                refine if_neg_of (by
                  show (valV kvs (.inl (pva ps (ixv ws (keyP k))))).isSome = false
                  rw [hno2]
                  rfl) ?_
                refine ⟨_, rfl, _, rfl, _, rfl, _, rfl, _, _, _, _, rfl, rfl, SqL.of ptA, atI_nat (mapAt (pv_get hnl)), _, _, rfl, DPut.k (k := .inl (pva ps (ixv ws (keyP k)))) tdA (big (by omega)), ?_⟩
                have tk := tk1 (nsat i k _ hkv)
                refine ⟨⟨_, _, _, _, _, rfl⟩, fun b o hb h => ?_, ?_, ?_, ?_, putK kvs (.inl (pva ps (ixv ws (keyP k)))) (.ref q), upd_same, ?_, fun z => ?_⟩
                · rw [upd_ne (by intro z; rw [z, ntd0] at h; cases h)]
                  exact othA b o hb h
                · rw [upd_ne (Ne.symm ntk)]
                  exact sA _ _ k9
                · rw [upd_ne (Ne.symm ntp)]
                  exact ptA
                · rw [tk]
                  exact List.nodup_append.mpr ⟨hnd, by simp, fun a ha b hb => by rw [List.mem_singleton.mp hb]; exact fun z => hin (z ▸ ha)⟩
                · rw [putK_new _ hno2, List.length_append]
                  exact Nat.add_le_add_right lk 1
                · rw [valV_put, tk, List.mem_append, List.mem_singleton]
                  by_cases e : z = pva ps (ixv ws (keyP k))
                  · subst e
                    rw [if_pos rfl]
                    simp
                  · rw [if_neg (fun h => e (Sum.inl.inj h)), hz]
                    simp [e]
            · rintro σ H9 ⟨⟨o2, o4, o5, o7, o9, rfl⟩, oth9, k9, pt9, hnd, kvs, td9, lk, hz⟩
              refine ⟨k9, _, rfl, hgood (fun hb => ?_) pt _ npt0 (unl oth9) (by rw [upd_ne npk]; exact pt9)⟩
              rcases hb with ⟨t, ht, h1, h2⟩ | ⟨i, j, v, u, hij, hi, hj, hp⟩
              · exact hno t ht ⟨h1, h2⟩
              · have key : ∀ (i : Nat) v, ws[i]? = some (some v) → ∃ a, ns[a]? = some (pva ps i) ∧ ∃ k z, kn[a]? = some (k, z) ∧ keyP k = v := fun i v h => by
                  have hw := List.mem_of_getElem? h
                  obtain ⟨p, hp, ep⟩ := List.mem_map.mp ((kn_mem a3 v).mpr hw)
                  obtain ⟨a, ha⟩ := List.getElem?_of_mem hp
                  obtain ⟨k, z⟩ := p
                  have ep : keyP k = v := ep
                  refine ⟨a, ?_, k, z, ha, ep⟩
                  rw [nsat a k z ha, ep, Vv.un _ _ _ (ixv_get hw).2 h]
                obtain ⟨a, ha, k1, z1, hk1, e1⟩ := key i v hi
                obtain ⟨b, hb, k2, z2, hk2, e2⟩ := key j u hj
                rw [show kn.length = ns.length by rw [List.length_map], List.take_length] at hnd
                have hab := (List.getElem?_inj (j := b) (List.getElem?_eq_some_iff.mp ha).1 hnd).mp (by rw [ha, hb, hp])
                subst hab
                rw [hk1] at hk2
                cases hk2
                rw [e1] at e2
                subst e2
                exact hij (Vv.un _ _ _ hi hj)
end
end K23
namespace K23
open PySem PySem.Spec PyProof.Rows L2 He TL EL
section
variable {P : Program} {w : World} {K : PySem.W.Frag} {mg : Str → Option Value} {base : Heap}
/-! value of two whole numbers -/
def spVal0 : Sp := fun vs H Q _ => ∃ a b : Int, vs = [.int a, .int b] ∧ b ≠ 0 ∧ b.natAbs < 2 ^ 8000 ∧ ∀ p H', H p = none → Same H H' → H' p = some (.tup [.int (nrm a b).1, .int (nrm a b).2]) → Q (.ref p) H'
theorem ok_val0 (T : Txt K mg) : ∃ fd, FunD K "value" "value" (defArgs s_value) (defBody s_value) (defScope s_value) ([.int 1] : List V) [] (ga K "value") fd ∧ FnOk P w K mg base CX0 2 (ga K "value") fd ["top", "bottom"] spVal0 := by
  obtain ⟨fd, F⟩ := T.f_value
  have D_is_whole := d_is_whole (P := P) (w := w) (base := base) T
  have D_common_divisor := d_common_divisor (P := P) (w := w) (base := base) T
  refine ⟨fd, F, F.ok sc_value (fun vs H Q E h => ?_) (fun cdv A outer s H vs Q E hr h => ?_)⟩
  · obtain ⟨a, b, rfl, _⟩ := h
    rfl
  · obtain ⟨a, b, rfl, hb, hz, hQ⟩ := h
    refine ⟨_, PSs.nox (pss_cons (ps_if (PW.pt (pw_or (pt_not (pt_val (cl D_is_whole (hr.mono (by decide)) (pa_cons (pv 0) pa_nil)))) (pw_or (pt_not (pt_val (cl D_is_whole (hr.mono (by decide)) (pa_cons (pv 1) pa_nil)))) (pw_or1 (pt_cmpR op_eq (pv 1) pe_int (nomark _)))))) (pss_one (ps_never)) pss_nil)
      (pss_cons (ps_if (pt_cmpR op_lt (pv 1) pe_int (nomark _)) (pss_one (ps_par (i := 0) (j := 1) (by rfl) sc_value.nd rfl rfl (by decide) rfl rfl (pa_cons (pe_un un_neg (pv 0)) (pa_cons (pe_un un_neg (pv 1)) pa_nil)) (by rfl))) pss_nil)
      (pss_cons (ps_set (i := 2) sc_value.nd rfl (.inl rfl) (cl D_common_divisor (hr.mono (by decide)) (pa_cons (pv 0) (pa_cons (pv 1) pa_nil))))
      (pss_one (ps_ret (pe_tup (pa_cons (pe_op op_fdivW (pv 0) (pv 2)) (pa_cons (pe_op op_fdivW (pv 1) (pv 2)) pa_nil)))))))), ?_⟩
    refine ⟨_, rfl, .int a, .d (.int a), rfl, .int a, _, rfl, iteF ?_⟩
    refine ⟨_, rfl, .int b, .d (.int b), rfl, .int b, _, rfl, iteF ?_⟩
    refine ⟨_, rfl, rfl, _, rfl, if_neg_of (by show decide (V.int b = V.int 0) = false; exact decide_eq_false fun z => hb (V.int.inj z)) ?_⟩
    refine ⟨_, rfl, _, _, rfl, rfl, _, rfl, ie (fun c2 => ?_) (fun c2 => ?_)⟩
    · have hneg := of_decide_eq_true c2
      have hp := cd_pos (a := -a) (b := -b) (by omega)
      have hle : cd (-a) (-b) ≤ -b := Int.le_of_dvd (by omega) (cd_dvd_r _ _)
      have hW : ∀ i : Int, CDivW i (cd (-a) (-b)) := fun i => wide_div hp (b := 8000) (Nat.lt_of_le_of_lt (by omega) hz) (by decide) (by decide)
      refine ⟨_, rfl, _, rfl, _, rfl, _, rfl, _, _, rfl, ?_⟩
      refine ⟨_, rfl, _, rfl, _, _, rfl, ?_⟩
      refine ⟨_, rfl, _, rfl, _, _, rfl, rfl, hW _, _, rfl, _, rfl, _, _, rfl, rfl, hW _, (by show 2 ≤ sizeLine; decide), newO fun p H' hp' hs h' => ?_⟩
      refine hQ p H' hp' hs ?_
      rw [h']
      unfold nrm
      rw [if_pos hneg]
    · have hneg := of_decide_eq_false c2
      have hp := cd_pos (a := a) (b := b) hb
      have hle : cd a b ≤ b := Int.le_of_dvd (by omega) (cd_dvd_r _ _)
      have hW : ∀ i : Int, CDivW i (cd a b) := fun i => wide_div hp (b := 8000) (Nat.lt_of_le_of_lt (by omega) hz) (by decide) (by decide)
      refine ⟨_, rfl, _, rfl, _, _, rfl, ?_⟩
      refine ⟨_, rfl, _, rfl, _, _, rfl, rfl, hW _, _, rfl, _, rfl, _, _, rfl, rfl, hW _, (by show 2 ≤ sizeLine; decide), newO fun p H' hp' hs h' => ?_⟩
      refine hQ p H' hp' hs ?_
      rw [h']
      unfold nrm
      rw [if_neg hneg]
theorem d_val0 (T : Txt K mg) : Dn P w K mg base CX0 2 "value" spVal0 := by
  obtain ⟨fd, F, G⟩ := ok_val0 (P := P) (w := w) (base := base) T
  obtain ⟨ds, hd, hb⟩ := FunD.binds1 (ps := ["top", "bottom"]) F 2 1 (by simp) rfl fun _ _ _ _ _ _ _ us its h1 h2 => match us, its, h1, h2 with | [_, _], [_], _, _ => ⟨_, rfl, rfl⟩
  cases hd
  exact ⟨T.g_value, F.kp, (G.raw hb .nil).imp fun vs H Q E h => by rw [List.append_nil]; exact h⟩
/-! is_met -/
def spIsMet (K : PySem.W.Frag) : Sp := fun vs H Q _ => ∃ x dx lw lt kd ws ts, vs = [.ref x] ∧ Wb K H x dx lw lt kd (ws.map woD) (ts.map wnD) ∧ Wv ws ts ∧ ws.length ≤ 100 ∧ ts.length ≤ 100 ∧
  ∀ (b : Bool) ps c H', Pt ws.length (fo (edgesL ws ts)) ps c → (∀ v, v < ws.length → 0 ≤ pva ps v) → (b = true ↔ ¬ badP ws ts ps) → Same H H' → Q (.bl b) H'
/-! between -/
abbrev oV := Option (Int × Int)
def OpV (K : PySem.W.Frag) (H : Hp) (v : V) : oV → Prop
  | none => v = .non
  | some z => ∃ q, v = .ref q ∧ SqT K H q [.int z.1, .int z.2]
def betF (lo hi : oV) (m : Nat) (k : Nat) : Int × Int := match lo, hi with
  | none, none => ((k : Int), 1)
  | none, some h => nrm (h.1 - ((m : Int) - (k : Int)) * h.2) h.2
  | some l, none => nrm (l.1 + ((k : Int) + 1) * l.2) l.2
  | some l, some h => nrm (l.1 * h.2 * ((m : Int) + 1) + (h.1 * l.2 - l.1 * h.2) * ((k : Int) + 1)) (l.2 * h.2 * ((m : Int) + 1))
def betL (lo hi : oV) (m : Nat) : List (Int × Int) := (List.range m).map (betF lo hi m)
def spBet (K : PySem.W.Frag) : Sp := fun vs H Q _ => ∃ v1 v2 lo hi m, vs = [v1, v2, nv m] ∧ OpV K H v1 lo ∧ OpV K H v2 hi ∧ m ≤ 200 ∧ (∀ z, lo = some z → z.1.natAbs < 2 ^ 200 ∧ z.2.natAbs < 2 ^ 200 ∧ 0 < z.2) ∧ (∀ z, hi = some z → z.1.natAbs < 2 ^ 200 ∧ z.2.natAbs < 2 ^ 200 ∧ 0 < z.2) ∧
  ∀ p us H', H p = none → Same H H' → H' p = some (.lst us) → DpAll K H' us ((betL lo hi m).map valD) → Q (.ref p) H'
def BetP (K : PySem.W.Frag) (H0 : Hp) (L : Addr) (f : Nat → Int × Int) (i : Nat) (H' : Hp) : Prop := ∃ us, H' L = some (.lst us) ∧ DpAll K H' us (((List.range i).map f).map valD) ∧ Same H0 H'
theorem bet_step {H0 H' H'' : Hp} {L p : Addr} {f : Nat → Int × Int} {i m : Nat} (hB : BetP K H0 L f i H') (hL : H0 L = none) (hi : i < m) (hm : m ≤ 200) (s : Same H' H'') (hp : H'' p = some (.tup [.int (f i).1, .int (f i).2])) :
    ∃ acc, H'' L = some (.lst acc) ∧ acc.length < sizeLine ∧ BetP K H0 L f (i + 1) (upd H'' L (.lst (acc ++ [.ref p]))) := by
  obtain ⟨us, h1, h2, h3⟩ := hB
  have lu : us.length = i := by rw [dp_len h2, List.length_map, List.length_range]
  refine ⟨us, s _ _ h1, Nat.lt_of_le_of_lt (by omega : us.length ≤ 200) (by decide), _, upd_same, ?_, same_upN (h3.trans s) hL⟩
  have m1 : Md [L] H'' (upd H'' L (.lst (us ++ [.ref p]))) := Md.upd (s _ _ h1) rfl (by simp)
  have hd : Dp K H'' (.ref p) (valD (f i)) := .tup (SqT.of hp) (.cons (.int _) (.cons (.int _) .nil))
  have := m1.dpAll (by rw [← List.map_singleton, ← List.map_append]; exact (pds_val _).nl) (DpAll.snoc hd (DpAll.same s h2))
  rw [List.range_succ, List.map_append, List.map_append]
  exact this
theorem wadd {n : Nat} (hn : n ≤ 200) : ((n : Int) + 1).natAbs < 2 ^ 200 ∧ ((n : Int)).natAbs < 2 ^ 200 := by
  have h : (300 : Nat) < 2 ^ 200 := by decide
  exact ⟨by omega, by omega⟩
theorem d_between (T : Txt K mg) : Dn P w K mg base CX0 3 "between" (spBet K) := by
  obtain ⟨fd, F⟩ := T.f_between
  have D_value := d_val0 (P := P) (w := w) (base := base) T
  refine dnN T.g_between F (fun _ _ _ _ _ _ us hl => match us, hl with | [_, _, _], _ => rfl) sc_between (fun vs H Q E h => ?_) (fun cdv A outer s H vs Q E hr h => ?_)
  · obtain ⟨v1, v2, lo, hi, m, rfl, _⟩ := h
    rfl
  · obtain ⟨v1, v2, lo, hi, m, rfl, h1, h2, hm, b1, b2, hQ⟩ := h
    refine ⟨_, PSs.nox (pss_cons (ps_if (PW.pt (pw_and (pt_cmpR op_isN (pv 0) pe_non (nomark _)) (pw_and1 (pt_cmpR op_isN (pv 1) pe_non (nomark _))))) (pss_one (ps_ret (pe_lc (own := [("k", 3)]) (tt := tYes) (by rfl) sc_between.nd (pi_range1 (by rfl) T.z_range (pa_cons (pv 2) pa_nil)) (blkOk_by (own := [("k", 3)]) (N := ["low", "high", "many", "k", "top", "gap", "bottom"]) (sc := defScope s_between) (by decide +kernel)) (fun _ _ _ _ _ => (pg_name (i := 3) sc_between.nd rfl (.inl rfl))) (fun _ _ _ _ _ => pts_nil) (fun _ _ _ _ _ => (pe_tup (pa_cons (pv 3) (pa_cons pe_int pa_nil))))))) pss_nil)
      (pss_cons (ps_if (pt_cmpR op_isN (pv 0) pe_non (nomark _)) (pss_one (ps_ret (pe_lc (own := [("k", 3)]) (tt := tYes) (by rfl) sc_between.nd (pi_range1 (by rfl) T.z_range (pa_cons (pv 2) pa_nil)) (blkOk_by (own := [("k", 3)]) (N := ["low", "high", "many", "k", "top", "gap", "bottom"]) (sc := defScope s_between) (by decide +kernel)) (fun _ _ _ _ _ => (pg_name (i := 3) sc_between.nd rfl (.inl rfl))) (fun _ _ _ _ _ => pts_nil) (fun _ _ _ _ _ => (cl D_value (hr.mono (by decide)) (pa_cons (pe_op op_sub (pe_ix (show IxR _ (rIxT K) from ix_tup) (pv 1) pe_int (fun _ _ => rfl)) (pe_op op_mulW (pe_op op_sub (pv 2) (pv 3)) (pe_ix (show IxR _ (rIxT K) from ix_tup) (pv 1) pe_int (fun _ _ => rfl)))) (pa_cons (pe_ix (show IxR _ (rIxT K) from ix_tup) (pv 1) pe_int (fun _ _ => rfl)) pa_nil))))))) pss_nil)
      (pss_cons (ps_if (pt_cmpR op_isN (pv 1) pe_non (nomark _)) (pss_one (ps_ret (pe_lc (own := [("k", 3)]) (tt := tYes) (by rfl) sc_between.nd (pi_range1 (by rfl) T.z_range (pa_cons (pv 2) pa_nil)) (blkOk_by (own := [("k", 3)]) (N := ["low", "high", "many", "k", "top", "gap", "bottom"]) (sc := defScope s_between) (by decide +kernel)) (fun _ _ _ _ _ => (pg_name (i := 3) sc_between.nd rfl (.inl rfl))) (fun _ _ _ _ _ => pts_nil) (fun _ _ _ _ _ => (cl D_value (hr.mono (by decide)) (pa_cons (pe_op op_add (pe_ix (show IxR _ (rIxT K) from ix_tup) (pv 0) pe_int (fun _ _ => rfl)) (pe_op op_mulW (pe_op op_add (pv 3) pe_int) (pe_ix (show IxR _ (rIxT K) from ix_tup) (pv 0) pe_int (fun _ _ => rfl)))) (pa_cons (pe_ix (show IxR _ (rIxT K) from ix_tup) (pv 0) pe_int (fun _ _ => rfl)) pa_nil))))))) pss_nil)
      (pss_cons (ps_set (i := 4) sc_between.nd rfl (.inr rfl) (pe_op op_mulW (pe_ix (show IxR _ (rIxT K) from ix_tup) (pv 0) pe_int (fun _ _ => rfl)) (pe_ix (show IxR _ (rIxT K) from ix_tup) (pv 1) pe_int (fun _ _ => rfl))))
      (pss_cons (ps_set (i := 5) sc_between.nd rfl (.inr rfl) (pe_op op_sub (pe_op op_mulW (pe_ix (show IxR _ (rIxT K) from ix_tup) (pv 1) pe_int (fun _ _ => rfl)) (pe_ix (show IxR _ (rIxT K) from ix_tup) (pv 0) pe_int (fun _ _ => rfl))) (pv 4)))
      (pss_cons (ps_set (i := 6) sc_between.nd rfl (.inr rfl) (pe_op op_mulW (pe_op op_mulW (pe_ix (show IxR _ (rIxT K) from ix_tup) (pv 0) pe_int (fun _ _ => rfl)) (pe_ix (show IxR _ (rIxT K) from ix_tup) (pv 1) pe_int (fun _ _ => rfl))) (pe_op op_add (pv 2) pe_int)))
      (pss_one (ps_ret (pe_lc (own := [("k", 3)]) (tt := tYes) (by rfl) sc_between.nd (pi_range1 (by rfl) T.z_range (pa_cons (pv 2) pa_nil)) (blkOk_by (own := [("k", 3)]) (N := ["low", "high", "many", "k", "top", "gap", "bottom"]) (sc := defScope s_between) (by decide +kernel)) (fun _ _ _ _ _ => (pg_name (i := 3) sc_between.nd rfl (.inl rfl))) (fun _ _ _ _ _ => pts_nil) (fun _ _ _ _ _ => (cl D_value (hr.mono (by decide)) (pa_cons (pe_op op_add (pe_op op_mulW (pv 4) (pe_op op_add (pv 2) pe_int)) (pe_op op_mulW (pv 5) (pe_op op_add (pv 3) pe_int))) (pa_cons (pv 6) pa_nil))))))))))))), ?_⟩
    have p200 : (400 : Nat) < 2 ^ 200 := by decide
    have pos1 : 0 < 200 := by decide
    cases lo with
    | none =>
      have h1 : v1 = .non := h1
      subst h1
      cases hi with
      | none =>
        have h2 : v2 = .non := h2
        subst h2
        refine ⟨_, rfl, rfl, _, rfl, iteT ?_⟩
        refine ⟨_, rfl, rfl, _, rfl, iteT ?_⟩
        refine ⟨_, rfl, m, rfl, by omega, by omega, fun L nL => ?_⟩
        refine lc_it walk_range (fun i H' => BetP K H L (betF none none m) i H') ⟨[], upd_same, .nil, same_upd nL⟩ (fun _ _ _ _ => trivial) ?_ fun H' ⟨us, k1, k2, k3⟩ => hQ L us H' nL k3 k1 k2
        rintro i v H' H'' hi hB ⟨rfl, rfl⟩
        show gName 3 (V.int (0 + (i : Int))) _ _ _
        rw [Int.zero_add]
        refine ⟨rfl, tYes_of ⟨_, rfl, (by show 2 ≤ sizeLine; decide), fun p np => ?_⟩⟩
        exact bet_step hB nL hi hm (same_upd np) upd_same
      | some h =>
        obtain ⟨q, rfl, hq⟩ := h2
        obtain ⟨g1, g2, g3⟩ := b2 h rfl
        refine ⟨_, rfl, rfl, _, rfl, iteT ?_⟩
        refine ⟨_, rfl, rfl, _, rfl, iteF ?_⟩
        refine ⟨_, rfl, rfl, _, rfl, iteT ?_⟩
        refine ⟨_, rfl, m, rfl, by omega, by omega, fun L nL => ?_⟩
        refine lc_it walk_range (fun i H' => BetP K H L (betF none (some h) m) i H') ⟨[], upd_same, .nil, same_upd nL⟩ (fun _ _ _ _ => trivial) ?_ fun H' ⟨us, k1, k2, k3⟩ => hQ L us H' nL k3 k1 k2
        rintro i v H' H'' hi hB ⟨rfl, rfl⟩
        have hq' := Same.seqT hB.choose_spec.2.2 hq
        show gName 3 (V.int (0 + (i : Int))) _ _ _
        rw [Int.zero_add]
        refine ⟨rfl, tYes_of ?_⟩
        refine ⟨_, rfl, _, _, 0, _, rfl, rfl, hq', atI_nat (j := 0) rfl, _, rfl, _, rfl, _, _, rfl, rfl, _, rfl, _, _, 1, _, rfl, rfl, hq', atI_nat (j := 1) rfl, _, _, rfl, rfl, wide_mul (a := 200) (b := 200) (by omega) g2 pos1 pos1 (by decide), _, _, rfl, rfl, _, rfl, _, _, 1, _, rfl, rfl, hq', atI_nat (j := 1) rfl, ?_⟩
        refine ⟨_, _, rfl, by omega, Nat.lt_trans g2 (Nat.pow_lt_pow_right (by decide) (by decide)), fun p H3 np s3 hp => bet_step hB nL hi hm s3 hp⟩
    | some l =>
      obtain ⟨q, rfl, hq⟩ := h1
      obtain ⟨g1, g2, g3⟩ := b1 l rfl
      cases hi with
      | none =>
        have h2 : v2 = .non := h2
        subst h2
        refine ⟨_, rfl, rfl, _, rfl, iteF ?_⟩
        refine ⟨_, rfl, rfl, _, rfl, iteF ?_⟩
        refine ⟨_, rfl, rfl, _, rfl, iteT ?_⟩
        refine ⟨_, rfl, m, rfl, by omega, by omega, fun L nL => ?_⟩
        refine lc_it walk_range (fun i H' => BetP K H L (betF (some l) none m) i H') ⟨[], upd_same, .nil, same_upd nL⟩ (fun _ _ _ _ => trivial) ?_ fun H' ⟨us, k1, k2, k3⟩ => hQ L us H' nL k3 k1 k2
        rintro i v H' H'' hi hB ⟨rfl, rfl⟩
        have hq' := Same.seqT hB.choose_spec.2.2 hq
        show gName 3 (V.int (0 + (i : Int))) _ _ _
        rw [Int.zero_add]
        refine ⟨rfl, tYes_of ?_⟩
        refine ⟨_, rfl, _, _, 0, _, rfl, rfl, hq', atI_nat (j := 0) rfl, _, rfl, _, _, rfl, rfl, _, rfl, _, _, 1, _, rfl, rfl, hq', atI_nat (j := 1) rfl, _, _, rfl, rfl, wide_mul (a := 200) (b := 200) (wadd (by omega)).1 g2 pos1 pos1 (by decide), _, _, rfl, rfl, _, rfl, _, _, 1, _, rfl, rfl, hq', atI_nat (j := 1) rfl, ?_⟩
        refine ⟨_, _, rfl, by omega, Nat.lt_trans g2 (Nat.pow_lt_pow_right (by decide) (by decide)), fun p H3 np s3 hp => bet_step hB nL hi hm s3 hp⟩
      | some h =>
        obtain ⟨r, rfl, hr2⟩ := h2
        obtain ⟨f1, f2, f3⟩ := b2 h rfl
        refine ⟨_, rfl, rfl, _, rfl, iteF ?_⟩
        refine ⟨_, rfl, rfl, _, rfl, iteF ?_⟩
        refine ⟨_, rfl, rfl, _, rfl, iteF ?_⟩
        have w1 : (l.1 * h.2).natAbs < 2 ^ 400 := wide_lt g1 f2
        have w2 : (h.1 * l.2).natAbs < 2 ^ 400 := wide_lt f1 g2
        have w3 : (l.2 * h.2).natAbs < 2 ^ 400 := wide_lt g2 f2
        have w4 : (h.1 * l.2 - l.1 * h.2).natAbs < 2 ^ 401 := by
          have e : (2 : Nat) ^ 401 = 2 ^ 400 + 2 ^ 400 := by decide
          rw [e]
          omega
        refine ⟨_, rfl, _, _, 0, _, rfl, rfl, hq, atI_nat (j := 0) rfl, _, rfl, _, _, 1, _, rfl, rfl, hr2, atI_nat (j := 1) rfl, _, _, rfl, rfl, wide_mul g1 f2 pos1 pos1 (by decide), ?_⟩
        refine ⟨_, rfl, _, _, 0, _, rfl, rfl, hr2, atI_nat (j := 0) rfl, _, rfl, _, _, 1, _, rfl, rfl, hq, atI_nat (j := 1) rfl, _, _, rfl, rfl, wide_mul f1 g2 pos1 pos1 (by decide), _, rfl, _, _, rfl, rfl, ?_⟩
        refine ⟨_, rfl, _, _, 1, _, rfl, rfl, hq, atI_nat (j := 1) rfl, _, rfl, _, _, 1, _, rfl, rfl, hr2, atI_nat (j := 1) rfl, _, _, rfl, rfl, wide_mul g2 f2 pos1 pos1 (by decide), _, rfl, _, _, rfl, rfl, _, _, rfl, rfl, wide_mul (a := 400) (b := 200) w3 (wadd hm).1 (by decide) pos1 (by decide), ?_⟩
        refine ⟨_, rfl, m, rfl, by omega, by omega, fun L nL => ?_⟩
        refine lc_it walk_range (fun i H' => BetP K H L (betF (some l) (some h) m) i H') ⟨[], upd_same, .nil, same_upd nL⟩ (fun _ _ _ _ => trivial) ?_ fun H' ⟨us, k1, k2, k3⟩ => hQ L us H' nL k3 k1 k2
        rintro i v H' H'' hi hB ⟨rfl, rfl⟩
        show gName 3 (V.int (0 + (i : Int))) _ _ _
        rw [Int.zero_add]
        refine ⟨rfl, tYes_of ?_⟩
        refine ⟨_, rfl, _, rfl, _, _, rfl, rfl, _, _, rfl, rfl, wide_mul (a := 400) (b := 200) w1 (wadd hm).1 (by decide) pos1 (by decide), _, rfl, _, rfl, _, _, rfl, rfl, _, _, rfl, rfl, wide_mul (a := 401) (b := 200) w4 (wadd (by omega)).1 (by decide) pos1 (by decide), _, _, rfl, rfl, _, rfl, ?_⟩
        refine ⟨_, _, rfl, ?_, Nat.lt_trans (wide_lt w3 (wadd hm).1) (Nat.pow_lt_pow_right (by decide) (by decide)), fun p H3 np s3 hp => bet_step hB nL hi hm s3 hp⟩
        have := Int.mul_pos (Int.mul_pos g3 f3) (by omega : (0 : Int) < (m : Int) + 1)
        omega
end
end K23
namespace K23
open PySem PySem.Spec PyProof.Rows L2 He TL EL
/-! xs[a:b] = ys (the slice's own order of release) -/
section
variable {X : Cx}
theorem pg_sl2 {o a b : Expr} {to : TE} {tl th : TE} {p2 pos : Pos} (ho : PE X o to) (hl : PE X a tl) (hu : PE X b th)
    (ha : ∀ v, assign (.Subscript o (.Slice (some a) (some b) none p2) pos) X.env v = (do
      let ov ← holding [v] (eval o X.env)
      let iv ← holding [v, ov] (eval (.Slice (some a) (some b) none p2) X.env)
      standAt pos
      holding [v, ov, iv] (setItem ov iv v)
      release [iv, v, ov] []) := by intro _; rfl) : PG X (.Subscript o (.Slice (some a) (some b) none p2) pos) (gSlS to (tPart tl) (tPart th)) := by
  refine ⟨fun pins s σ H v u Q I r h => ?_⟩
  rw [ha]
  refine wpAny_bind (wpAny_holding (thn (ho.run pins s σ H _ I h) fun ov s1 ⟨x, H1, I1, r1, q1⟩ => ?_))
  refine wpAny_bind (wpAny_holding (wpAny_Slice (thn ((po_some hl).run pins s1 σ H1 _ I1 q1) fun vl s2 ⟨i, H2, I2, pl, q2⟩ => thn ((po_some hu).run pins s2 σ H2 _ I2 q2) fun vu s3 ⟨j, H3, I3, pu, q3⟩ => ?_)))
  rw [evalPart_none]
  refine wpAny_pure ?_
  have I4 : Inv X pins σ H3 { s3 with heap := s3.heap.push { cls := .type "slice", data := .fields #[vl, vu, .none] } } := I3.kept (t' := s3.toks) fun b ob q => Heap.get?_push_of_some _ q
  obtain ⟨l, bb, xs, ys, ai, ci, e1, e2, e3, e4, hx, hy, hne, h0, hac, hc, hz, q⟩ := q3
  subst e1 e2 e3 e4
  cases r1
  cases r
  have rl : RelV (.int ai) vl := by cases pl; exact ⟨_, rfl⟩
  have ru : RelV (.int ci) vu := by cases pu; exact ⟨_, rfl⟩
  refine wpAny_bind (wpAny_standAt (wpAny_bind (wpAny_holding ?_)))
  refine set_slice I4 hx hy hne (Heap.IsSliceOf.new ..) rl ru h0 hac hc hz fun s5 I5 => ?_
  exact wpAny_release ⟨σ, _, I5, q⟩
end
/-! the values by parts -/
abbrev prt (ws : List (Option (Int × Int))) (ps : List Int) (p : List Key × V) : Nat := (pva ps (ixv ws (keyP p.1))).toNat
def ksL (ws : List (Option (Int × Int))) (ps : List Int) (c : Nat) (kn : List (List Key × V)) : List oV := kn.foldl (fun a p => a.set (prt ws ps p) (some (keyP p.1))) (List.replicate c none)
theorem ksL_snoc (ws : List (Option (Int × Int))) (ps : List Int) (c : Nat) (kn : List (List Key × V)) (p : List Key × V) : ksL ws ps c (kn ++ [p]) = (ksL ws ps c kn).set (prt ws ps p) (some (keyP p.1)) := by
  unfold ksL
  rw [List.foldl_append]
  rfl
theorem ksL_len (ws : List (Option (Int × Int))) (ps : List Int) (c : Nat) (kn : List (List Key × V)) : (ksL ws ps c kn).length = c := by
  have h : ∀ (l : List (List Key × V)) (a : List oV), (l.foldl (fun a p => a.set (prt ws ps p) (some (keyP p.1))) a).length = a.length := by
    intro l
    induction l with
    | nil => intro a; rfl
    | cons p l ih => intro a; rw [List.foldl_cons, ih, List.length_set]
  unfold ksL
  rw [h, List.length_replicate]
/-- the filling, part by part: D stands, low is the last known -/
inductive Fill (ks : List oV) : Nat → List (Int × Int) → Prop
  | nil : Fill ks 0 []
  | known {s k : Nat} {D : List (Int × Int)} {h : Int × Int} : Fill ks s D → s ≤ k → ks[k]? = some (some h) → (∀ j, s ≤ j → j < k → ks[j]? = some none) → Fill ks (k + 1) (D ++ betL D.getLast? (some h) (k - s) ++ [h])
theorem Fill.len {ks : List oV} {s : Nat} {D : List (Int × Int)} (f : Fill ks s D) : D.length = s := by
  induction f with
  | nil => rfl
  | known _ h _ _ ih =>
    rw [List.length_append, List.length_append, ih]
    unfold betL
    rw [List.length_map, List.length_range, List.length_singleton]
    omega
def Filled (ks : List oV) (WL : List (Int × Int)) : Prop := ∃ s D, Fill ks s D ∧ s ≤ ks.length ∧ (∀ j, s ≤ j → j < ks.length → ks[j]? = some none) ∧ WL = D ++ betL D.getLast? none (ks.length - s)
theorem pds_wo (l : List oV) : Pds (l.map woD) := fun d hd => by
  obtain ⟨o, _, rfl⟩ := List.mem_map.mp hd
  cases o with
  | none => exact ⟨rfl, rfl, by show 0 ≤ 16; decide⟩
  | some v => exact Pd.valD v
section
variable {P : Program} {w : World} {K : PySem.W.Frag} {mg : Str → Option Value} {base : Heap}
theorem dp_set {H : Hp} {v : V} {d : PyData} (k : Dp K H v d) : ∀ {us : List V} {ds : List PyData} {j : Nat}, DpAll K H us ds → DpAll K H (us.set j v) (ds.set j d)
  | _, _, _, .nil => .nil
  | _, _, 0, .cons _ b => .cons k b
  | _, _, j + 1, .cons a b => .cons a (dp_set k b)
theorem dp_td {H : Hp} : ∀ (k : Nat) {us : List V} {ds : List PyData}, DpAll K H us ds → DpAll K H (us.take k) (ds.take k) ∧ DpAll K H (us.drop k) (ds.drop k)
  | 0, _, _, h => ⟨.nil, h⟩
  | k + 1, _, _, .nil => ⟨.nil, .nil⟩
  | k + 1, _, _, .cons a b => ⟨.cons a (dp_td k b).1, (dp_td k b).2⟩
theorem dp_at {H : Hp} : ∀ {ds : List PyData} {vs : List V} {i : Nat} {d : PyData}, DpAll K H vs ds → ds[i]? = some d → ∃ v, vs[i]? = some v ∧ Dp K H v d
  | _, _, 0, _, .cons a b, e => by cases e; exact ⟨_, rfl, a⟩
  | _, _, i + 1, _, .cons a b, e => dp_at (i := i) b e
theorem dat_at {D : List (Int × Int)} {ks : List oV} {s i : Nat} (hl : D.length = s) (hsi : s ≤ i) {o : oV} (h : ks[i]? = some o) : (D.map valD ++ (ks.drop s).map woD)[i]? = some (woD o) := by
  rw [List.getElem?_append_right (by rw [List.length_map]; omega), List.getElem?_map, List.getElem?_drop, List.length_map, hl, show s + (i - s) = i by omega, h]
  rfl
theorem dat_td {D : List (Int × Int)} {ks : List oV} {s i : Nat} (hl : D.length = s) (hsi : s ≤ i) : (D.map valD ++ (ks.drop s).map woD).take s = D.map valD ∧ (D.map valD ++ (ks.drop s).map woD).drop i = (ks.drop i).map woD := by
  constructor
  · rw [List.take_append_of_le_length (by rw [List.length_map]; omega), List.take_of_length_le (by rw [List.length_map]; omega)]
  · rw [List.drop_append, List.drop_eq_nil_of_le (by rw [List.length_map]; omega), List.nil_append, List.length_map, ← List.map_drop, List.drop_drop, hl, show s + (i - s) = i by omega]
theorem all_lt : ∀ {c : Nat} {l : List Nat}, (∀ k, k < c → k ∈ l) → c ≤ l.length
  | 0, _, _ => Nat.zero_le _
  | c + 1, l, h => by
    have hm := h c (Nat.lt_succ_self c)
    have := all_lt (c := c) (l := l.erase c) fun k hk => (List.mem_erase_of_ne (by omega)).mpr (h k (by omega))
    rw [List.length_erase_of_mem hm] at this
    have := List.length_pos_of_mem hm
    omega
theorem pds_mid (A B : List (Int × Int)) (l : List oV) : Pds (A.map valD ++ B.map valD ++ l.map woD) := fun d hd => by
  rcases List.mem_append.mp hd with hd | hd
  · rcases List.mem_append.mp hd with hd | hd
    · exact pds_val _ d hd
    · exact pds_val _ d hd
  · exact pds_wo _ d hd
theorem ksL_mem {ws : List (Option (Int × Int))} {ps : List Int} {c : Nat} {v : Int × Int} : ∀ {kn : List (List Key × V)}, some v ∈ ksL ws ps c kn → ∃ p ∈ kn, keyP p.1 = v := by
  have h : ∀ (l : List (List Key × V)) (a : List oV), some v ∈ l.foldl (fun a p => a.set (prt ws ps p) (some (keyP p.1))) a → some v ∈ a ∨ ∃ p ∈ l, keyP p.1 = v := by
    intro l
    induction l with
    | nil => intro a h; exact .inl h
    | cons p l ih =>
      intro a h
      rcases ih _ h with h | ⟨q, hq, e⟩
      · rcases List.mem_or_eq_of_mem_set h with h | h
        · exact .inl h
        · exact .inr ⟨p, List.mem_cons_self, (Option.some.inj h).symm⟩
      · exact .inr ⟨q, List.mem_cons_of_mem _ hq, e⟩
  intro kn hm
  rcases h kn _ hm with h | h
  · exact absurd (List.eq_of_mem_replicate h) (by simp)
  · exact h
theorem Fill.last {ks : List oV} {s : Nat} {D : List (Int × Int)} (f : Fill ks s D) : ∀ z, D.getLast? = some z → some z ∈ ks := by
  cases f with
  | nil => intro z h; cases h
  | known _ _ h _ =>
    intro z hz
    rw [List.getLast?_concat] at hz
    cases hz
    exact List.mem_of_getElem? h
def spSol (K : PySem.W.Frag) : Sp := fun vs H Q E => ∃ x dx lw lt kd ws ts, vs = [.ref x] ∧ Wb K H x dx lw lt kd (ws.map woD) (ts.map wnD) ∧ Wv ws ts ∧ ws.length ≤ 100 ∧ ts.length ≤ 100 ∧
  ∀ ps c, Pt ws.length (fo (edgesL ws ts)) ps c → (∀ v, v < ws.length → 0 ≤ pva ps v) →
    (badP ws ts ps → ∀ H', Same H H' → E (.ref (ga K "NotMet")) none H') ∧
    (¬ badP ws ts ps → ∀ p us kn WL H', Kn (ws.map woD) kn → Filled (ksL ws ps c kn) WL → H p = none → Same H H' → H' p = some (.lst us) → DpAll K H' us ((ps.map fun n => WL.getD n.toNat (0, 0)).map valD) → Q (.ref p) H')
theorem d_solution (T : Txt K mg) : FnR P w K mg base (L2.CX P w) 5 (ma K (ga K "Web") "solution") (spSol K) := by
  obtain ⟨fd, F⟩ := T.f_Web_solution
  have D_parts := d_parts (P := P) (w := w) (base := base) T
  have D_between := d_between (P := P) (w := w) (base := base) T
  refine fnN F (fun _ _ _ _ _ _ us hl => match us, hl with | [_], _ => rfl) sc_Web_solution (fun vs H Q E h => ?_) (fun cdv A outer s H vs Q E hr h => ?_)
  · obtain ⟨x, dx, lw, lt, kd, ws, ts, rfl, _⟩ := h
    rfl
  · obtain ⟨x, dx, lw, lt, kd, ws, ts, rfl, W, Vv, hl1, hl2, hQ⟩ := h
    refine ⟨_, (pss_cons (ps_set (i := 1) sc_Web_solution.nd rfl (.inl rfl) (pe_methE0 (pv 0) T.o_Web.cl T.h_Web_parts D_parts (hr.mono (by decide)) px0))
      (pss_cons (ps_if (pt_cmpR op_isN (pv 1) pe_non (nomark _)) (pss_one (EL.rs (by rfl) (takes_of rfl rfl rfl rfl) T.x_NotMet (by rfl))) pss_nil)
      (pss_cons (ps_set (i := 2) sc_Web_solution.nd rfl (.inl rfl) pe_int)
      (pss_cons (ps_for (passes_of rfl) rfl (pi_list (pv 1)) (pg_name (i := 3) sc_Web_solution.nd rfl (.inl rfl))
      (pss_one (ps_if (pt_cmpR op_ge (pv 3) (pv 2) (nomark _)) (pss_one (ps_set (i := 2) sc_Web_solution.nd rfl (.inl rfl) (pe_op op_add (pv 3) pe_int))) pss_nil)))
      (pss_cons (ps_set (i := 4) sc_Web_solution.nd rfl (.inr rfl) (pe_lc (own := [("k", 5)]) (tt := tYes) (by rfl) sc_Web_solution.nd (pi_range1 (by rfl) T.z_range (pa_cons (pv 2) pa_nil)) (blkOk_by (own := [("k", 5)]) (N := ["self", "part", "many", "number", "worths", "k", "worth", "low", "start", "at", "high"]) (sc := defScope s_Web_solution) (by decide +kernel)) (fun _ _ _ _ _ => (pg_name (i := 5) sc_Web_solution.nd rfl (.inl rfl))) (fun _ _ _ _ _ => pts_nil) (fun _ _ _ _ _ => pe_non)))
      (pss_cons (ps_lock (ps_for (passes_of rfl) rfl (ZI.pi_items (pe_fld (pv 0) rfl)) (pg_tup rfl (pgs_cons (pg_name (i := 6) sc_Web_solution.nd rfl (.inl rfl)) (pgs_cons (pg_name (i := 3) sc_Web_solution.nd rfl (.inl rfl)) pgs_nil)))
      (pss_one (ps_asg (pv 6) (pg_sub (pv 4) (pe_ix ix_list (pv 1) (pv 3) (fun _ _ => rfl)) set_list)))))
      (pss_cons (ps_set (i := 7) sc_Web_solution.nd rfl (.inl rfl) pe_non)
      (pss_cons (ps_set (i := 8) sc_Web_solution.nd rfl (.inl rfl) pe_int)
      (pss_cons (ps_for (passes_of rfl) rfl (pi_range1 (by rfl) T.z_range (pa_cons (pe_op op_add (pv 2) pe_int) pa_nil)) (pg_name (i := 9) sc_Web_solution.nd rfl (.inl rfl))
      (pss_cons (ps_if (PW.pt (pw_and (pt_cmpR op_lt (pv 9) (pv 2) (nomark _)) (pw_and1 (pt_cmpR op_isN (pe_ix ix_list (pv 4) (pv 9) (fun _ _ => rfl)) pe_non (nomark _))))) (pss_one ps_continue) pss_nil)
      (pss_cons (ps_set (i := 10) sc_Web_solution.nd rfl (.inl rfl) (pe_ifExp (pt_cmpR op_lt (pv 9) (pv 2) (nomark _)) (pe_ix ix_list (pv 4) (pv 9) (fun _ _ => rfl)) pe_non))
      (pss_cons (ps_asg (cl D_between (hr.mono (by decide)) (pa_cons (pv 7) (pa_cons (pv 10) (pa_cons (pe_op op_sub (pv 9) (pv 8)) pa_nil)))) (pg_sl2 (pv 4) (pv 8) (pv 9)))
      (pss_cons (ps_set (i := 7) sc_Web_solution.nd rfl (.inl rfl) (pv 10))
      (pss_one (ps_set (i := 8) sc_Web_solution.nd rfl (.inl rfl) (pe_op op_add (pv 9) pe_int))))))))
      (pss_one (ps_ret (pe_lc (own := [("number", 3)]) (tt := tYes) (by rfl) sc_Web_solution.nd (pi_list (pv 1)) (blkOk_by (own := [("number", 3)]) (N := ["self", "part", "many", "number", "worths", "k", "worth", "low", "start", "at", "high"]) (sc := defScope s_Web_solution) (by decide +kernel)) (fun _ _ _ _ _ => (pg_name (i := 3) sc_Web_solution.nd rfl (.inl rfl))) (fun _ _ _ _ _ => pts_nil) (fun _ _ _ _ _ => (pe_ix (show IxR _ (rIxL K) from ix_list) (pv 4) (pv 3) (fun _ _ => rfl))))))))))))))), ?_⟩
    obtain ⟨hx, ⟨v1, e1, a1⟩, ⟨v2, e2, a2⟩, ⟨kn, e3, a3⟩, pw, pd⟩ := id W
    have big : ∀ {n : Nat}, n ≤ 1000 → n < sizeLine := fun h => Nat.lt_of_le_of_lt h (by decide)
    refine ⟨_, rfl, _, _, _, rfl, W.hx, webF_no (by decide) (by decide) (by decide), ?_⟩
    refine ⟨x, dx, lw, lt, kd, ws, ts, rfl, W, Vv, hl1, hl2, fun ps c hP hall => ⟨fun hb H' s => ⟨_, rfl, rfl, _, rfl, iteT ((hQ ps c hP hall).1 hb H' s)⟩, fun hb pt H1 npt s1 pt1 => ⟨_, rfl, rfl, _, rfl, iteF ?_⟩⟩⟩
    have hgood := (hQ ps c hP hall).2 hb
    clear hQ
    have lps := hP.len
    have at0 : ∀ (i : Nat) y, ps[i]? = some y → ∃ n : Nat, y = n ∧ n < c := fun i y h => by
      have hi : i < ws.length := by rw [← lps]; exact (List.getElem?_eq_some_iff.mp h).1
      have h0 := hall i hi
      have h1 := (hP.lo i).2
      rw [pv_at h] at h0 h1
      obtain ⟨n, rfl⟩ := Int.eq_ofNat_of_zero_le h0
      exact ⟨n, rfl, by omega⟩
    have hcn : c ≤ 100 := by
      have h := all_lt (c := c) (l := ps.map Int.toNat) fun k hk => by
        obtain ⟨v, hv⟩ := hP.full k hk
        have hvl : v < ps.length := pv_lt (by rw [hv]; exact Int.natCast_nonneg _)
        refine List.mem_map.mpr ⟨_, List.mem_of_getElem? (pv_get hvl), ?_⟩
        rw [hv, Int.toNat_natCast]
      rw [List.length_map] at h
      omega
    refine ⟨_, rfl, pt, rfl, ⟨_, SqL.of pt1⟩, for_list (K := K) (a := pt) (xs := ps.map V.int) (fun i σ H' => H1 = H' ∧ ∃ (m : Nat) (o3 : Option V), σ = [some (.ref x), some (.ref pt), some (nv m), o3, none, none, none, none, none, none, none] ∧ m ≤ c ∧ ∀ j y, j < i → ps[j]? = some y → y < (m : Int)) ⟨rfl, 0, none, rfl, Nat.zero_le _, fun j y h => absurd h (Nat.not_lt_zero _)⟩ (fun i σ H' _ h => by rw [← h.1]; exact SqL.of pt1) ?_ ?_⟩
    · rintro i v σ H' hg ⟨rfl, m, o3, rfl, hmc, hlt⟩
      obtain ⟨y, hy, rfl⟩ := getM hg
      obtain ⟨n, rfl, hnc⟩ := at0 i y hy
      refine ⟨_, rfl, _, rfl, _, _, rfl, rfl, _, rfl, ie (fun c1 => ?_) (fun c1 => ?_)⟩
      · have c1 := of_decide_eq_true c1
        refine ⟨_, rfl, _, _, rfl, rfl, rfl, n + 1, _, rfl, hnc, fun j y hj hy' => ?_⟩
        by_cases z : j = i
        · rw [z, hy] at hy'
          cases hy'
          omega
        · have := hlt j y (by omega) hy'
          omega
      · have c1 := of_decide_eq_false c1
        refine ⟨rfl, m, _, rfl, hmc, fun j y hj hy' => ?_⟩
        by_cases z : j = i
        · rw [z, hy] at hy'
          cases hy'
          omega
        · exact hlt j y (by omega) hy'
    · rintro σ H' ⟨rfl, m, o3, rfl, hmc, hlt⟩
      have hm : m = c := by
        have : c ≤ m := by
          by_cases c0 : c = 0
          · omega
          · obtain ⟨v, hv⟩ := hP.full (c - 1) (by omega)
            have hvl : v < ps.length := pv_lt (by rw [hv]; exact Int.natCast_nonneg _)
            have := hlt v _ (by rw [List.length_map]; exact hvl) (pv_get hvl)
            rw [hv] at this
            omega
        omega
      subst hm
      clear hlt hmc
      refine ⟨_, rfl, m, rfl, by omega, by omega, fun wl nwl => ?_⟩
      refine lc_it walk_range (fun i H' => H' = upd H1 wl (.lst (List.replicate i .non))) rfl (fun _ _ _ _ => trivial) ?_ ?_
      · rintro i v H' H'' hi e ⟨rfl, rfl⟩
        subst e
        refine ⟨rfl, tYes_of ⟨_, upd_same, by rw [List.length_replicate]; exact big (by omega), by rw [upd_upd, List.replicate_succ']⟩⟩
      · rintro H2 e2'
        rw [Int.toNat_natCast] at e2'
        have s2 : Same H1 H2 := e2' ▸ same_upd nwl
        have wl2 : H2 wl = some (.lst (List.replicate m .non)) := e2' ▸ upd_same
        clear e2'
        have s02 := s1.trans s2
        have pt2 := s2 _ _ pt1
        have nwl0 : H wl = none := by
          cases hh : H wl with
          | none => rfl
          | some ob => rw [s1 _ _ hh] at nwl; cases nwl
        have nwk : wl ≠ kd := fun z => by rw [z, e3] at nwl0; cases nwl0
        have npk : pt ≠ kd := fun z => by rw [z, e3] at npt; cases npt
        have nwp : wl ≠ pt := fun z => by rw [z, pt1] at nwl; cases nwl
        have nxk := W.ne1.2.2.1
        refine ⟨kd, _, s02 _ _ e3, trivial, fun od => ?_⟩
        generalize eH8 : upd H2 kd _ = H8
        have k8 : H8 kd = some (.frz od (.dT kn)) := eH8 ▸ upd_same
        have oth : ∀ b o, b ≠ kd → H b = some o → H8 b = some o := fun b o hb h => by rw [← eH8, upd_ne hb]; exact s02 _ _ h
        have pt8 : H8 pt = some (.lst (ps.map V.int)) := by rw [← eH8, upd_ne npk]; exact pt2
        have wl8 : H8 wl = some (.lst (List.replicate m .non)) := by rw [← eH8, upd_ne nwk]; exact wl2
        clear eH8
        have unl : ∀ {H' : Hp}, (∀ b o, b ≠ kd → H b = some o → H' b = some o) → Same H (upd H' kd (.dT kn)) := fun {H'} h b o hb => by
          by_cases e : b = kd
          · subst e
            rw [upd_same, ← e3, hb]
          · rw [upd_ne e]
            exact h b o e hb
        have num : ∀ (j : Nat) k v, kn[j]? = some (k, v) → v = nv (ixv ws (keyP k)) ∧ some (keyP k) ∈ ws ∧ k = tk (keyP k).1 (keyP k).2 := fun j k v h => by
          have hm := List.mem_of_getElem? h
          obtain ⟨a, b, ek⟩ := a3.ky _ hm
          have ek : k = tk a b := ek
          have hz : some (a, b) ∈ ws := (kn_mem a3 (a, b)).mp (List.mem_map.mpr ⟨_, hm, by rw [ek]; rfl⟩)
          have h1 := valV_at a3.nd h
          rw [ek, a3.val a b, idx_wo, (ixv_get hz).1] at h1
          have e : keyP k = (a, b) := by rw [ek]; rfl
          rw [e]
          exact ⟨(Option.some.inj h1).symm, hz, ek⟩
        have nwsp : ∀ ds : List PyData, ds = (List.replicate m (none : oV)).map woD → DpAll K (upd H8 kd (.dT kn)) (List.replicate m .non) ds := fun ds h => by
          subst h
          have : ∀ n : Nat, DpAll K (upd H8 kd (.dT kn)) (List.replicate n .non) ((List.replicate n (none : oV)).map woD) := fun n => by
            induction n with
            | zero => exact .nil
            | succ n ih => exact .cons .non ih
          exact this m
        refine ⟨_, rfl, _, _, _, _, _, rfl, oth _ _ nxk hx, T.o_Web.cl, T.n_Web_known, webF_known, kd, _, kn, rfl, k8, for_it ZI.walk (fun i σ H' => (∃ o3 o6, σ = [some (.ref x), some (.ref pt), some (nv m), o3, some (.ref wl), none, o6, none, none, none, none]) ∧ (∀ b o, b ≠ kd → H b = some o → H' b = some o) ∧ H' kd = some (.frz od (.dT kn)) ∧ H' pt = some (.lst (ps.map V.int)) ∧ ∃ us, H' wl = some (.lst us) ∧ DpAll K (upd H' kd (.dT kn)) us ((ksL ws ps m (kn.take i)).map woD)) ⟨⟨_, _, rfl⟩, oth, k8, pt8, _, wl8, nwsp _ rfl⟩ (fun i σ H' _ h => h.2.2.1) ?_ ?_⟩
        · rintro i v σ H9 H10 hi ⟨⟨o3, o6, rfl⟩, oth9, k9, pt9, us, wl9, du⟩ ⟨tt, k, vv, q, hkv, hq, rfl, ntt, rfl⟩
          obtain ⟨rfl, hkw, hk⟩ := num i k vv hkv
          have hn := ixv_get hkw
          have hnl : ixv ws (keyP k) < ps.length := by rw [lps]; exact (List.getElem?_eq_some_iff.mp hn.2).1
          obtain ⟨n, en, hnc⟩ := at0 _ _ (pv_get hnl)
          have sA : Same H9 (upd H9 tt (.tup [.ref q, nv (ixv ws (keyP k))])) := same_upd ntt
          generalize eA : upd H9 tt _ = HA at sA
          have tA : HA tt = some (.tup [.ref q, nv (ixv ws (keyP k))]) := eA ▸ upd_same
          clear eA
          have wlA := sA _ _ wl9
          have lus : us.length = m := by rw [dp_len du, ksL_len]
          refine ⟨tt, _, rfl, SqT.of tA, rfl, _, _, rfl, _, _, rfl, rfl, ?_⟩
          refine ⟨_, rfl, _, rfl, _, rfl, _, rfl, _, _, _, _, rfl, rfl, SqL.of (sA _ _ pt9), atI_nat (mapAt (pv_get hnl)), wl, _, _, n, rfl, rfl, wlA, (by rw [en]; exact ixNn (by rw [lus]; exact hnc)), ?_⟩
          have m0 : Md [wl] HA (upd HA wl (.lst (us.set n (.ref q)))) := Md.upd wlA rfl (by simp)
          have sV : Same (upd H9 kd (.dT kn)) (upd HA kd (.dT kn)) := fun b o hb => by
            by_cases e : b = kd
            · subst e
              rw [upd_same] at hb ⊢
              exact hb
            · rw [upd_ne e] at hb ⊢
              exact sA _ _ hb
          have eV : upd (upd HA wl (.lst (us.set n (.ref q)))) kd (.dT kn) = upd (upd HA kd (.dT kn)) wl (.lst (us.set n (.ref q))) := by
            funext b
            by_cases z1 : b = kd
            · rw [z1, upd_same, upd_ne (Ne.symm nwk), upd_same]
            · rw [upd_ne z1]
              by_cases z2 : b = wl
              · rw [z2, upd_same, upd_same]
              · rw [upd_ne z2, upd_ne z2, upd_ne z1]
          have m1 : Md [wl] (upd HA kd (.dT kn)) (upd (upd HA kd (.dT kn)) wl (.lst (us.set n (.ref q)))) := Md.upd (o := .lst us) (by rw [upd_ne nwk]; exact wlA) rfl (by simp)
          refine ⟨⟨_, _, rfl⟩, fun b o hb h => ?_, m0.out _ _ (sA _ _ k9) (by simp [Ne.symm nwk]), m0.out _ _ (sA _ _ pt9) (by simp [Ne.symm nwp]), _, upd_same, ?_⟩
          · rw [upd_ne (by intro z; rw [z, nwl0] at h; cases h)]
            exact sA _ _ (oth9 b o hb h)
          · have hqk : q ≠ kd := fun z => by rw [z, k9] at hq; cases hq
            have hdq : Dp K (upd HA kd (.dT kn)) (.ref q) (valD (keyP k)) := by
              have this : upd HA kd (.dT kn) q = some (.tup (k.map kV)) := by rw [upd_ne hqk]; exact sA _ _ hq
              rw [hk] at this
              exact .tup (SqT.of this) (.cons (.int _) (.cons (.int _) .nil))
            have e : (ksL ws ps m (kn.take (i + 1))).map woD = ((ksL ws ps m (kn.take i)).map woD).set n (valD (keyP k)) := by
              rw [tk1 hkv, ksL_snoc, List.map_set]
              show List.set _ (pva ps (ixv ws (keyP k))).toNat _ = _
              rw [en, Int.toNat_natCast]
              rfl
            rw [e, eV]
            exact m1.dpAll (by rw [← e]; exact (pds_wo _).nl) (dp_set hdq (DpAll.same sV du))
        · rintro σ H9 ⟨⟨o3, o6, rfl⟩, oth9, k9, pt9, us, wl9, du⟩
          rw [List.take_length] at du
          refine ⟨k9, ?_⟩
          generalize eH4 : upd H9 kd _ = H4
          rw [eH4] at du
          have s4 : Same H H4 := eH4 ▸ unl oth9
          have pt4 : H4 pt = some (.lst (ps.map V.int)) := by rw [← eH4, upd_ne npk]; exact pt9
          have wl4 : H4 wl = some (.lst us) := by rw [← eH4, upd_ne nwk]; exact wl9
          have du4 := du
          clear eH4 oth9 k9 pt9 wl9 du k8 oth pt8 wl8 unl nwsp
          generalize hks : ksL ws ps m kn = ks at du4
          have lks : ks.length = m := by rw [← hks]; exact ksL_len _ _ _ _
          have vks : ∀ z, some z ∈ ks → z.1.natAbs < 2 ^ 200 ∧ z.2.natAbs < 2 ^ 200 ∧ 0 < z.2 := fun z hz => by
            rw [← hks] at hz
            obtain ⟨p, hp, ep⟩ := ksL_mem hz
            have v := Vv.vl z ((kn_mem a3 z).mp (List.mem_map.mpr ⟨p, hp, ep⟩))
            exact ⟨Nat.lt_trans v.top (Nat.pow_lt_pow_right (by decide) (by decide)), Nat.lt_trans v.bot (Nat.pow_lt_pow_right (by decide) (by decide)), v.low.1⟩
          refine ⟨_, rfl, _, _, rfl, rfl, m + 1, rfl, by omega, by omega, for_range (n := m + 1) (fun i σ H' => Same H H' ∧ H' pt = some (.lst (ps.map V.int)) ∧ ((i ≤ m ∧ ∃ (s : Nat) (D : List (Int × Int)) (us : List V) (lv : V) (o3 o6 o9 o10 : Option V), σ = [some (.ref x), some (.ref pt), some (nv m), o3, some (.ref wl), none, o6, some lv, some (nv s), o9, o10] ∧ s ≤ i ∧ Fill ks s D ∧ (∀ j, s ≤ j → j < i → ks[j]? = some none) ∧ OpV K H' lv D.getLast? ∧ H' wl = some (.lst us) ∧ DpAll K H' us (D.map valD ++ (ks.drop s).map woD)) ∨ (i = m + 1 ∧ ∃ (WL : List (Int × Int)) (us : List V) (o3 o6 o7 o8 o9 o10 : Option V), σ = [some (.ref x), some (.ref pt), some (nv m), o3, some (.ref wl), none, o6, o7, o8, o9, o10] ∧ Filled ks WL ∧ H' wl = some (.lst us) ∧ DpAll K H' us (WL.map valD)))) ⟨s4, pt4, .inl ⟨Nat.zero_le _, 0, [], us, .non, _, _, _, _, rfl, Nat.le_refl _, .nil, fun j _ h => absurd h (Nat.not_lt_zero _), rfl, wl4, du4⟩⟩ ?_ ?_⟩
          · rintro i σ H5 hi ⟨s5, pt5, ⟨him, s, D, u5, lv, o3, o6, o9, o10, rfl, hsi, hF, hgap, hlv, wl5, du5⟩ | ⟨h1, _⟩⟩
            rotate_left
            · omega
            show gName 9 (V.int (0 + (i : Int))) _ _ _
            rw [Int.zero_add]
            have lD := hF.len
            have lu5 : u5.length = m := by
              rw [DpAll.length du5, List.length_append, List.length_map, List.length_map, List.length_drop, lks, lD]
              omega
            have hbl : ∀ z, D.getLast? = some z → z.1.natAbs < 2 ^ 200 ∧ z.2.natAbs < 2 ^ 200 ∧ 0 < z.2 := fun z hz => vks z (hF.last z hz)
            have htd := dat_td (ks := ks) lD hsi
            have esub : ((i : Int) - (s : Int)) = ((i - s : Nat) : Int) := by omega
            refine ⟨_, rfl, _, rfl, _, _, rfl, rfl, _, rfl, ?_⟩
            by_cases hic : i < m
            · refine if_pos_of (decide_eq_true (by omega)) ?_
              obtain ⟨o, ho⟩ : ∃ o, ks[i]? = some o := ⟨_, List.getElem?_eq_getElem (by omega)⟩
              obtain ⟨u, hu, hd⟩ := dp_at du5 (dat_at lD hsi ho)
              refine ⟨_, rfl, _, rfl, _, _, _, _, rfl, rfl, SqL.of wl5, atI_nat hu, rfl, _, rfl, ?_⟩
              cases o with
              | none =>
                have hun : u = .non := by cases hd; rfl
                subst hun
                refine iteT ⟨s5, pt5, .inl ⟨by omega, s, D, u5, lv, _, _, _, _, rfl, by omega, hF, fun j h1 h2 => ?_, hlv, wl5, du5⟩⟩
                by_cases z : j = i
                · rw [z]; exact ho
                · exact hgap j h1 (by omega)
              | some h =>
                obtain ⟨q, rfl, hq⟩ := dp_val hd
                refine iteF ?_
                refine ⟨_, rfl, _, rfl, _, _, rfl, rfl, _, rfl, if_pos_of (decide_eq_true (by omega)) ?_⟩
                refine ⟨_, rfl, _, rfl, _, _, _, _, rfl, rfl, SqL.of wl5, atI_nat hu, ?_⟩
                refine ⟨_, rfl, _, rfl, _, rfl, _, rfl, _, _, rfl, rfl, lv, .ref q, D.getLast?, some h, i - s, (by show [lv, V.ref q, V.int ((i : Int) - (s : Int))] = _; rw [esub]), hlv, ⟨q, rfl, hq⟩, by omega, hbl, fun z hz => (by cases hz; exact vks _ (List.mem_of_getElem? ho)), fun bp zs H6 nbp s6 bp6 dz => ?_⟩
                have wl6 := s6 _ _ wl5
                have nwb : wl ≠ bp := fun z => by rw [← z, wl5] at nbp; cases nbp
                have lz : zs.length = i - s := by rw [dp_len dz]; unfold betL; rw [List.length_map, List.length_range]
                refine ⟨_, rfl, _, rfl, _, rfl, _, rfl, _, rfl, wl, bp, u5, zs, (s : Int), (i : Int), rfl, rfl, rfl, rfl, wl6, bp6, nwb, by omega, by omega, by omega, by rw [lu5, lz]; exact Nat.le_of_lt (big (by omega)), ?_⟩
                rw [Int.toNat_natCast, Int.toNat_natCast]
                refine ⟨_, rfl, _, rfl, _, _, rfl, rfl, ?_⟩
                have du6 := DpAll.same s6 du5
                have hdp := DpAll.app (DpAll.app (htd.1 ▸ (dp_td s du6).1) dz) (htd.2 ▸ (dp_td i du6).2)
                have edrop : ks.drop i = some h :: ks.drop (i + 1) := by
                  rw [List.drop_eq_getElem_cons (by omega)]
                  congr 1
                  exact (List.getElem?_eq_some_iff.mp ho).2
                have hp := pds_mid D (betL D.getLast? (some h) (i - s)) (ks.drop i)
                have m7 : Md [wl] H6 (upd H6 wl (.lst (u5.take s ++ zs ++ u5.drop i))) := Md.upd wl6 rfl (by simp)
                have d7 := m7.dpAll hp.nl hdp
                have e7 : D.map valD ++ (betL D.getLast? (some h) (i - s)).map valD ++ (ks.drop i).map woD = (D ++ betL D.getLast? (some h) (i - s) ++ [h]).map valD ++ (ks.drop (i + 1)).map woD := by
                  rw [edrop]
                  simp [woD]
                rw [e7] at d7
                refine ⟨same_upN (s5.trans s6) nwl0, m7.out _ _ (s6 _ _ pt5) (by simp [Ne.symm nwp]), .inl ⟨by omega, i + 1, D ++ betL D.getLast? (some h) (i - s) ++ [h], _, .ref q, _, _, _, _, rfl, Nat.le_refl _, .known hF hsi ho hgap, fun j h1 h2 => absurd h1 (by omega), ?_, upd_same, d7⟩⟩
                rw [List.getLast?_concat]
                exact ⟨q, rfl, m7.sqT (Same.seqT s6 hq)⟩
            · have him' : i = m := by omega
              subst him'
              refine if_neg_of (decide_eq_false (by omega)) ?_
              refine ⟨_, rfl, _, rfl, _, _, rfl, rfl, _, rfl, if_neg_of (decide_eq_false (by omega)) ?_⟩
              refine ⟨_, rfl, _, rfl, _, rfl, _, rfl, _, _, rfl, rfl, lv, .non, D.getLast?, none, i - s, (by show [lv, V.non, V.int ((i : Int) - (s : Int))] = _; rw [esub]), hlv, rfl, by omega, hbl, fun z hz => (by cases hz), fun bp zs H6 nbp s6 bp6 dz => ?_⟩
              have wl6 := s6 _ _ wl5
              have nwb : wl ≠ bp := fun z => by rw [← z, wl5] at nbp; cases nbp
              have lz : zs.length = i - s := by rw [dp_len dz]; unfold betL; rw [List.length_map, List.length_range]
              refine ⟨_, rfl, _, rfl, _, rfl, _, rfl, _, rfl, wl, bp, u5, zs, (s : Int), (i : Int), rfl, rfl, rfl, rfl, wl6, bp6, nwb, by omega, by omega, by omega, by rw [lu5, lz]; exact Nat.le_of_lt (big (by omega)), ?_⟩
              rw [Int.toNat_natCast, Int.toNat_natCast]
              refine ⟨_, rfl, _, rfl, _, _, rfl, rfl, ?_⟩
              have du6 := DpAll.same s6 du5
              have hdp := DpAll.app (DpAll.app (htd.1 ▸ (dp_td s du6).1) dz) (htd.2 ▸ (dp_td i du6).2)
              have hp := pds_mid D (betL D.getLast? none (i - s)) (ks.drop i)
              have m7 : Md [wl] H6 (upd H6 wl (.lst (u5.take s ++ zs ++ u5.drop i))) := Md.upd wl6 rfl (by simp)
              have d7 := m7.dpAll hp.nl hdp
              have e7 : D.map valD ++ (betL D.getLast? none (i - s)).map valD ++ (ks.drop i).map woD = (D ++ betL D.getLast? none (i - s)).map valD := by
                rw [List.drop_eq_nil_of_le (by omega)]
                simp
              rw [e7] at d7
              exact ⟨same_upN (s5.trans s6) nwl0, m7.out _ _ (s6 _ _ pt5) (by simp [Ne.symm nwp]), .inr ⟨rfl, _, _, _, _, _, _, _, _, rfl, ⟨s, D, hF, by omega, fun j h1 h2 => hgap j h1 (by omega), by rw [lks]⟩, upd_same, d7⟩⟩
          · rintro σ H5 ⟨s5, pt5, ⟨him, _⟩ | ⟨_, WL, u5, o3, o6, o7, o8, o9, o10, rfl, hW, wl5, du5⟩⟩
            · omega
            · have lW : WL.length = m := by
                obtain ⟨s, D, hF, h1, _, rfl⟩ := hW
                rw [List.length_append, hF.len]
                unfold betL
                rw [List.length_map, List.length_range]
                omega
              refine ⟨_, rfl, pt, rfl, ⟨_, SqL.of pt5⟩, fun L nL => ?_⟩
              refine lc_it (walk_list (xs := ps.map V.int)) (fun i H' => ∃ us, H' L = some (.lst us) ∧ DpAll K H' us (((ps.take i).map fun n => WL.getD n.toNat (0, 0)).map valD) ∧ Same H5 H') ⟨[], upd_same, .nil, same_upd nL⟩ (fun i H' _ h => SqL.of (h.choose_spec.2.2 _ _ pt5)) ?_ ?_
              · rintro i v H' H'' hi ⟨us, h1, h2, h3⟩ ⟨rfl, hv⟩
                obtain ⟨y, hy, rfl⟩ := getM hv
                obtain ⟨n, rfl, hnc⟩ := at0 i y hy
                obtain ⟨u, hu, hd⟩ := dp_at du5 (mapAt (f := valD) (List.getElem?_eq_getElem (by omega : n < WL.length)))
                refine ⟨rfl, tYes_of ⟨_, rfl, _, rfl, _, _, _, _, rfl, rfl, SqL.of (h3 _ _ wl5), atI_nat hu, us, h1, ?_, ?_⟩⟩
                · rw [dp_len h2, List.length_map, List.length_take]
                  exact big (by omega)
                · have m1 : Md [L] H'' (upd H'' L (.lst (us ++ [u]))) := Md.upd h1 rfl (by simp)
                  have := m1.dpAll (by rw [← List.map_singleton, ← List.map_append]; exact (pds_val _).nl) (DpAll.snoc (Dp.same h3 hd) h2)
                  refine ⟨_, upd_same, ?_, same_upN h3 nL⟩
                  rw [tk1 hy, List.map_append, List.map_append]
                  show DpAll K _ _ (_ ++ [valD (WL.getD ((n : Int)).toNat (0, 0))])
                  rw [Int.toNat_natCast, List.getD_eq_getElem?_getD, List.getElem?_eq_getElem (by omega : n < WL.length)]
                  exact this
              · rintro H' ⟨us, h1, h2, h3⟩
                rw [List.length_map, List.take_length] at h2
                refine hgood L us kn WL H' a3 (by rw [hks]; exact hW) ?_ (s5.trans h3) h1 h2
                cases hh : H L with
                | none => rfl
                | some ob => rw [s5 _ _ hh] at nL; cases nL
end
end K23
namespace K23
open PySem PySem.Spec PyProof.Rows L2 He TL EL
/-! chains: what the law's rows tell -/
abbrev Mx := Nat → Nat → Nat
def Ge (M : Mx) (i j : Nat) : Bool → Prop
  | true => M i j = 2
  | false => 0 < M i j
def T (B : Nat → Nat → Bool → Prop) : Nat → Nat → Nat → Bool → Prop
  | 0, i, j, s => B i j s
  | k + 1, i, j, s => T B k i j s ∨ ∃ s1 s2, T B k i k s1 ∧ T B k k j s2 ∧ s = (s1 || s2)
theorem T.mono {B : Nat → Nat → Bool → Prop} {i j : Nat} {s : Bool} : ∀ {k m : Nat}, k ≤ m → T B k i j s → T B m i j s
  | k, 0, h, t => by
    have : k = 0 := by omega
    subst this
    exact t
  | k, m + 1, h, t => by
    by_cases e : k = m + 1
    · subst e; exact t
    · exact .inl (T.mono (by omega) t)
theorem T.base {B C : Nat → Nat → Bool → Prop} (h : ∀ i j s, B i j s → C i j s) : ∀ {k i j : Nat} {s : Bool}, T B k i j s → T C k i j s
  | 0, _, _, _, t => h _ _ _ t
  | k + 1, _, _, _, .inl t => .inl (T.base h t)
  | k + 1, _, _, _, .inr ⟨s1, s2, t1, t2, e⟩ => .inr ⟨s1, s2, T.base h t1, T.base h t2, e⟩
/-- with no strict round at k, T is transitive over what is below -/
theorem T.tr {B : Nat → Nat → Bool → Prop} : ∀ {K : Nat}, (∀ m, m < K → ¬ T B m m m true) → ∀ {m i j : Nat} {s1 s2 : Bool}, m < K → T B K i m s1 → T B K m j s2 → T B K i j (s1 || s2)
  | 0, _, m, _, _, _, _, h, _, _ => absurd h (Nat.not_lt_zero _)
  | k + 1, hn, m, i, j, s1, s2, hm, h1, h2 => by
    have ih : ∀ {m i j : Nat} {s1 s2 : Bool}, m < k → T B k i m s1 → T B k m j s2 → T B k i j (s1 || s2) := fun {m i j s1 s2} => T.tr (K := k) fun m hm => hn m (by omega)
    have loop : ∀ b, T B k k k b → b = false := fun b h => by
      cases b with
      | false => rfl
      | true => exact absurd h (hn k (by omega))
    by_cases e : m = k
    · subst e
      have g1 : T B m i m s1 := by
        rcases h1 with h | ⟨a, b, ta, tb, e⟩
        · exact h
        · rw [e, loop b tb, Bool.or_false]; exact ta
      have g2 : T B m m j s2 := by
        rcases h2 with h | ⟨a, b, ta, tb, e⟩
        · exact h
        · rw [e, loop a ta, Bool.false_or]; exact tb
      exact .inr ⟨s1, s2, g1, g2, rfl⟩
    · have hmk : m < k := by omega
      rcases h1 with h1 | ⟨a, b, ta, tb, e1⟩
      · rcases h2 with h2 | ⟨c, d, tc, td, e2⟩
        · exact .inl (ih hmk h1 h2)
        · exact .inr ⟨_, d, ih hmk h1 tc, td, by rw [e2, Bool.or_assoc]⟩
      · rcases h2 with h2 | ⟨c, d, tc, td, e2⟩
        · exact .inr ⟨a, _, ta, ih hmk tb h2, by rw [e1, Bool.or_assoc]⟩
        · have := loop _ (ih hmk tb tc)
          have hb : b = false := by cases b <;> simp_all
          have hc : c = false := by cases b <;> cases c <;> simp_all
          exact .inr ⟨a, d, ta, td, by rw [e1, e2, hb, hc, Bool.or_false, Bool.false_or]⟩
/-- one turn of the three loops -/
def val (M : Mx) (k i j : Nat) : Nat := if 0 < M i k ∧ 0 < M k j then (if M i k = 2 ∨ M k j = 2 then 2 else 1) else 0
def stp (M : Mx) (k i j : Nat) : Mx := fun a b => if a = i ∧ b = j then max (M i j) (val M k i j) else M a b
theorem stp_ge {M : Mx} {k i j : Nat} (a b : Nat) : M a b ≤ stp M k i j a b := by
  unfold stp
  split
  · rename_i h
    obtain ⟨rfl, rfl⟩ := h
    exact Nat.le_max_left _ _
  · exact Nat.le_refl _
theorem val_le (M : Mx) (k i j : Nat) : val M k i j ≤ 2 := by
  unfold val
  split <;> (try split) <;> omega
theorem stp_le {M : Mx} (h : ∀ a b, M a b ≤ 2) {k i j : Nat} (a b : Nat) : stp M k i j a b ≤ 2 := by
  unfold stp
  split
  · exact Nat.max_le.mpr ⟨h _ _, val_le _ _ _ _⟩
  · exact h a b
theorem Ge.up {M N : Mx} (hN : ∀ a b, N a b ≤ 2) {i j : Nat} {s : Bool} (h : M i j ≤ N i j) (g : Ge M i j s) : Ge N i j s := by
  cases s with
  | true =>
    have g : M i j = 2 := g
    show N i j = 2
    have := hN i j
    omega
  | false =>
    have g : 0 < M i j := g
    show 0 < N i j
    omega
/-- sound: a row tells of a path, 2 of a strict step on it -/
structure Snd (S : Nat → List Nat) (SE : Nat → Nat → Prop) (M : Mx) : Prop where
  le : ∀ i j, M i j ≤ 2
  pos : ∀ i j, 0 < M i j → Rch S i j
  two : ∀ i j, M i j = 2 → ∃ u v, SE u v ∧ Rch S i u ∧ Rch S v j
theorem Snd.step {S : Nat → List Nat} {SE : Nat → Nat → Prop} {M : Mx} (h : Snd S SE M) (k i j : Nat) : Snd S SE (stp M k i j) := by
  refine ⟨stp_le h.le, fun a b hp => ?_, fun a b hp => ?_⟩
  · unfold stp at hp
    split at hp
    · rename_i e
      obtain ⟨rfl, rfl⟩ := e
      by_cases hm : 0 < M a b
      · exact h.pos _ _ hm
      · have hv : 0 < val M k a b := by omega
        unfold val at hv
        split at hv
        · rename_i g
          exact (h.pos _ _ g.1).trans (h.pos _ _ g.2)
        · exact absurd hv (Nat.lt_irrefl _)
    · exact h.pos _ _ hp
  · unfold stp at hp
    split at hp
    · rename_i e
      obtain ⟨rfl, rfl⟩ := e
      by_cases hm : M a b = 2
      · exact h.two _ _ hm
      · have h1 := h.le a b
        have h2 := val_le M k a b
        have hv : val M k a b = 2 := by omega
        unfold val at hv
        split at hv
        · rename_i g
          split at hv
          · rename_i g2
            rcases g2 with g2 | g2
            · obtain ⟨u, v, e, r1, r2⟩ := h.two _ _ g2
              exact ⟨u, v, e, r1, r2.trans (h.pos _ _ g.2)⟩
            · obtain ⟨u, v, e, r1, r2⟩ := h.two _ _ g2
              exact ⟨u, v, e, (h.pos _ _ g.1).trans r1, r2⟩
          · omega
        · omega
    · exact h.two _ _ hp
/-- complete up to k, and for the pairs in P up to k + 1 -/
def Cp (n : Nat) (B : Nat → Nat → Bool → Prop) (k : Nat) (P : Nat → Nat → Prop) (M : Mx) : Prop := (∀ i j, i < n → j < n → ∀ s, T B k i j s → Ge M i j s) ∧ ∀ i j, i < n → j < n → P i j → ∀ s, T B (k + 1) i j s → Ge M i j s
theorem Ge.pos {M : Mx} {i j : Nat} {s : Bool} (h : Ge M i j s) : 0 < M i j := by
  cases s with
  | true => have h : M i j = 2 := h; omega
  | false => exact h
theorem Cp.step {n k i j : Nat} {B : Nat → Nat → Bool → Prop} {P Q : Nat → Nat → Prop} {M : Mx} (h : Cp n B k P M) (hM : ∀ a b, M a b ≤ 2) (hk : k < n) (hi : i < n) (hj : j < n) (hQ : ∀ a b, Q a b → P a b ∨ (a = i ∧ b = j)) : Cp n B k Q (stp M k i j) := by
  have hN := stp_le hM (k := k) (i := i) (j := j)
  refine ⟨fun a b ha hb s t => Ge.up hN (stp_ge a b) (h.1 a b ha hb s t), fun a b ha hb hq s t => ?_⟩
  rcases hQ a b hq with hp | ⟨rfl, rfl⟩
  · exact Ge.up hN (stp_ge a b) (h.2 a b ha hb hp s t)
  · rcases t with t | ⟨s1, s2, t1, t2, e⟩
    · exact Ge.up hN (stp_ge a b) (h.1 a b ha hb s t)
    · have g1 := h.1 a k ha hk s1 t1
      have g2 := h.1 k b hk hb s2 t2
      have hv : val M k a b ≤ stp M k a b a b := by
        unfold stp
        rw [if_pos ⟨rfl, rfl⟩]
        exact Nat.le_max_right _ _
      have hle := hN a b
      cases s with
      | false =>
        show 0 < stp M k a b a b
        have : 0 < val M k a b := by
          unfold val
          rw [if_pos ⟨g1.pos, g2.pos⟩]
          split <;> omega
        omega
      | true =>
        show stp M k a b a b = 2
        have : val M k a b = 2 := by
          unfold val
          rw [if_pos ⟨g1.pos, g2.pos⟩, if_pos]
          cases s1 with
          | true => exact .inl g1
          | false =>
            cases s2 with
            | true => exact .inr g2
            | false => cases e
        omega
/-- a round is done -/
theorem Cp.next {n k : Nat} {B : Nat → Nat → Bool → Prop} {P : Nat → Nat → Prop} {M : Mx} (h : Cp n B k P M) (hP : ∀ i j, i < n → j < n → P i j) : Cp n B (k + 1) (fun _ _ => False) M :=
  ⟨fun i j hi hj s t => h.2 i j hi hj (hP i j hi hj) s t, fun _ _ _ _ h => h.elim⟩
/-- what the rows tell at the end -/
structure Rows (n : Nat) (S : Nat → List Nat) (SE : Nat → Nat → Prop) (M : Mx) : Prop where
  pos : ∀ i j, i < n → j < n → (0 < M i j ↔ Rch S i j)
  two : (∃ i, i < n ∧ M i i = 2) ↔ ∃ u v, SE u v ∧ Rch S v u
def B0 (M : Mx) : Nat → Nat → Bool → Prop := fun i j s => Ge M i j s
def B1 (M : Mx) : Nat → Nat → Bool → Prop := fun i j s => s = false ∧ 0 < M i j
theorem T.false1 {M : Mx} : ∀ {k i j : Nat} {s : Bool}, T (B1 M) k i j s → s = false
  | 0, _, _, _, h => h.1
  | k + 1, _, _, _, .inl h => T.false1 h
  | k + 1, _, _, _, .inr ⟨s1, s2, h1, h2, e⟩ => by rw [e, T.false1 h1, T.false1 h2]; rfl
theorem T.reach {n : Nat} {S : Nat → List Nat} {B : Nat → Nat → Bool → Prop} (hS : ∀ u, ∀ v ∈ S u, v < n) (hB : ∀ u v, v ∈ S u → B u v false) (h0 : ∀ u, B u u false) (hn : ∀ m, m < n → ¬ T B m m m true) {i j : Nat} (h : Rch S i j) : T B n i j false := by
  induction h with
  | refl u => exact T.mono (Nat.zero_le _) (h0 u)
  | step a _ ih => exact T.tr hn (hS _ _ a) (T.mono (Nat.zero_le n) (hB _ _ a)) ih
theorem Rows.of {n : Nat} {S : Nat → List Nat} {SE : Nat → Nat → Prop} {M0 M : Mx} (hS : ∀ u, ∀ v ∈ S u, v < n) (hSE : ∀ u v, SE u v → u < n ∧ v < n ∧ M0 u v = 2) (hE : ∀ u v, v ∈ S u → 0 < M0 u v) (h0 : ∀ u, 0 < M0 u u) (s : Snd S SE M) (c : Cp n (B0 M0) n (fun _ _ => False) M) : Rows n S SE M := by
  refine ⟨fun i j hi hj => ⟨s.pos i j, fun r => ?_⟩, ⟨fun ⟨i, hi, h⟩ => ?_, fun ⟨u, v, e, r⟩ => ?_⟩⟩
  · have t : T (B1 M0) n i j false := T.reach hS (fun u v h => ⟨rfl, hE u v h⟩) (fun u => ⟨rfl, h0 u⟩) (fun m _ h => absurd (T.false1 h) (by simp)) r
    have t2 : T (B0 M0) n i j false := T.base (fun i j s h => by obtain ⟨e, h⟩ := h; subst e; exact h) t
    exact c.1 i j hi hj false t2
  · obtain ⟨u, v, e, r1, r2⟩ := s.two i i h
    exact ⟨u, v, e, r2.trans r1⟩
  · obtain ⟨hu, hv, h2⟩ := hSE u v e
    by_cases hn : ∃ m, m < n ∧ T (B0 M0) m m m true
    · obtain ⟨m, hm, t⟩ := hn
      exact ⟨m, hm, c.1 m m hm hm true (T.mono (Nat.le_of_lt hm) t)⟩
    · have hn' : ∀ m, m < n → ¬ T (B0 M0) m m m true := fun m hm t => hn ⟨m, hm, t⟩
      have t1 : T (B0 M0) n u v true := T.mono (Nat.zero_le _) h2
      have t2 : T (B0 M0) n v u false := T.reach hS hE h0 hn' r
      exact ⟨u, hu, c.1 u u hu hu true (T.tr hn' hv t1 t2)⟩
end K23
namespace K23
open PySem PySem.Spec PyProof.Rows L2 He TL EL
/-! the law's strengths and the program's edges -/
def lessO (ws : List (Option (Int × Int))) (i j : Nat) : Bool := match ws[i]?, ws[j]? with
  | some (some a), some (some b) => decide (ltV a b)
  | _, _ => false
theorem lessO_iff {ws : List (Option (Int × Int))} {i j : Nat} : lessO ws i j = true ↔ ∃ a b, ws[i]? = some (some a) ∧ ws[j]? = some (some b) ∧ ltV a b := by
  unfold lessO
  constructor
  · intro h
    split at h
    · rename_i a b h1 h2
      exact ⟨a, b, h1, h2, of_decide_eq_true h⟩
    · cases h
  · rintro ⟨a, b, h1, h2, h3⟩
    rw [h1, h2]
    exact decide_eq_true h3
def wkW (i j : Nat) (t : Wn) : Bool := decide (t = ⟨.le, i, j⟩) || (decide (t = ⟨.eq, i, j⟩) || decide (t = ⟨.eq, j, i⟩))
def strN (ws : List (Option (Int × Int))) (ts : List Wn) (i j : Nat) : Nat := if i = j then 1 else if lessO ws i j = true then 2 else if ⟨.lt, i, j⟩ ∈ ts then 2 else if ts.any (wkW i j) = true then 1 else 0
def M0 (ws : List (Option (Int × Int))) (ts : List Wn) : Mx := fun i j => if i = j ∧ (⟨.lt, i, i⟩ : Wn) ∈ ts then 2 else strN ws ts i j
def SE (ws : List (Option (Int × Int))) (ts : List Wn) (u v : Nat) : Prop := ⟨.lt, u, v⟩ ∈ ts ∨ ∃ a b, ws[u]? = some (some a) ∧ ws[v]? = some (some b) ∧ ltV a b
section
variable {ws : List (Option (Int × Int))} {ts : List Wn}
abbrev SS (ws : List (Option (Int × Int))) (ts : List Wn) : Nat → List Nat := fo (edgesL ws ts)
theorem low_of (Vv : Wv ws ts) {v : Int × Int} (h : v ∈ fxV ws) : Low v.1 v.2 := (Vv.vl v (mem_fxV.mp h)).low
theorem asc_ok (Vv : Wv ws ts) : SrtV (asc (fxV ws)) := asc_srt fun x hx => low_of Vv hx
theorem ixv_un (Vv : Wv ws ts) {u : Nat} {a : Int × Int} (h : ws[u]? = some (some a)) : ixv ws a = u := Vv.un _ _ _ (ixv_get (List.mem_of_getElem? h)).2 h
theorem srt_at {L : List (Int × Int)} (h : SrtV L) {i j : Nat} {x y : Int × Int} (hx : L[i]? = some x) (hy : L[j]? = some y) (hij : i < j) : ltV x y := srt_lt h hx hy hij
theorem row_edge {k : Nat} {x y : Nat} (hx : (rowN ws)[k]? = some x) (hy : (rowN ws)[k + 1]? = some y) : y ∈ SS ws ts x := by
  refine mem_fo.mpr (List.mem_append_right _ (List.mem_of_getElem? (i := k) (List.getElem?_zip_eq_some.mpr ⟨hx, ?_⟩)))
  rw [List.getElem?_drop, Nat.add_comm]
  exact hy
theorem row_path : ∀ {d p : Nat} {x y : Nat}, (rowN ws)[p]? = some x → (rowN ws)[p + d]? = some y → Rch (SS ws ts) x y
  | 0, p, x, y, hx, hy => by
    rw [Nat.add_zero, hx] at hy
    cases hy
    exact .refl _
  | d + 1, p, x, y, hx, hy => by
    have hl := (List.getElem?_eq_some_iff.mp hy).1
    obtain ⟨z, hz⟩ : ∃ z, (rowN ws)[p + 1]? = some z := ⟨_, List.getElem?_eq_getElem (by omega)⟩
    exact .step (row_edge hx hz) (row_path hz (by rw [show p + 1 + d = p + (d + 1) by omega]; exact hy))
theorem asc_at (Vv : Wv ws ts) {u : Nat} {a : Int × Int} (h : ws[u]? = some (some a)) : ∃ p : Nat, (asc (fxV ws))[p]? = some a ∧ (rowN ws)[p]? = some u := by
  have hm : a ∈ asc (fxV ws) := (asc_mem _ _).mpr (mem_fxV.mpr (List.mem_of_getElem? h))
  obtain ⟨p, hp⟩ := List.getElem?_of_mem hm
  exact ⟨p, hp, by rw [← ixv_un Vv h]; exact mapAt hp⟩
theorem known_path (Vv : Wv ws ts) {u v : Nat} {a b : Int × Int} (hu : ws[u]? = some (some a)) (hv : ws[v]? = some (some b)) (h : ltV a b) : Rch (SS ws ts) u v := by
  obtain ⟨p, hp, rp⟩ := asc_at Vv hu
  obtain ⟨q, hq, rq⟩ := asc_at Vv hv
  have hpq : p < q := by
    rcases Nat.lt_trichotomy p q with z | z | z
    · exact z
    · subst z
      rw [hp] at hq
      cases hq
      exact absurd h (ltV_irrefl _)
    · have := srt_at (asc_ok Vv) hq hp z
      unfold ltV at h this
      omega
  exact row_path rp (d := q - p) (by rw [show p + (q - p) = q by omega]; exact rq)
theorem want_edge {t : Wn} (ht : t ∈ ts) (h : t.s ≠ .ne) : t.j ∈ SS ws ts t.i := by
  refine mem_fo.mpr (List.mem_append_left _ (List.mem_flatMap.mpr ⟨t, ht, ?_⟩))
  unfold wEd
  rw [if_neg h]
  exact List.mem_append_left _ List.mem_cons_self
theorem want_back {t : Wn} (ht : t ∈ ts) (h : t.s = .eq) : t.i ∈ SS ws ts t.j := by
  refine mem_fo.mpr (List.mem_append_left _ (List.mem_flatMap.mpr ⟨t, ht, ?_⟩))
  unfold wEd
  rw [if_pos h]
  exact List.mem_append_right _ List.mem_cons_self
theorem M0_le (i j : Nat) : M0 ws ts i j ≤ 2 := by
  unfold M0 strN
  repeat' split
  all_goals omega
theorem M0_pos (Vv : Wv ws ts) {i j : Nat} (h : 0 < M0 ws ts i j) : Rch (SS ws ts) i j := by
  unfold M0 at h
  split at h
  · rename_i e
    rw [e.1]
    exact .refl _
  · unfold strN at h
    split at h
    · rename_i e
      rw [e]
      exact .refl _
    · split at h
      · rename_i e
        obtain ⟨a, b, h1, h2, h3⟩ := lessO_iff.mp e
        exact known_path Vv h1 h2 h3
      · split at h
        · rename_i e
          exact .one (want_edge e (by simp))
        · split at h
          · rename_i e
            obtain ⟨t, ht, hw⟩ := List.any_eq_true.mp e
            unfold wkW at hw
            rcases Bool.or_eq_true_iff.mp hw with hw | hw
            · have := of_decide_eq_true hw
              subst this
              exact .one (want_edge ht (by simp))
            · rcases Bool.or_eq_true_iff.mp hw with hw | hw
              · have := of_decide_eq_true hw
                subst this
                exact .one (want_edge ht (by simp))
              · have := of_decide_eq_true hw
                subst this
                exact .one (want_back ht rfl)
          · omega
theorem M0_two {i j : Nat} (h : M0 ws ts i j = 2) : SE ws ts i j := by
  unfold M0 at h
  split at h
  · rename_i e
    obtain ⟨rfl, e⟩ := e
    exact .inl e
  · unfold strN at h
    split at h
    · omega
    · split at h
      · rename_i e
        exact .inr (lessO_iff.mp e)
      · split at h
        · rename_i e
          exact .inl e
        · split at h <;> omega
theorem SE_M0 (Vv : Wv ws ts) {u v : Nat} (h : SE ws ts u v) : u < ws.length ∧ v < ws.length ∧ M0 ws ts u v = 2 := by
  rcases h with h | ⟨a, b, h1, h2, h3⟩
  · obtain ⟨hu, hv⟩ := Vv.tb _ h
    refine ⟨hu, hv, ?_⟩
    unfold M0
    by_cases e : u = v
    · subst e
      rw [if_pos ⟨rfl, h⟩]
    · rw [if_neg (fun z => e z.1)]
      unfold strN
      rw [if_neg e, if_pos h]
      split <;> rfl
  · refine ⟨(List.getElem?_eq_some_iff.mp h1).1, (List.getElem?_eq_some_iff.mp h2).1, ?_⟩
    have e : u ≠ v := fun z => by
      subst z
      rw [h1] at h2
      cases h2
      exact ltV_irrefl _ h3
    unfold M0 strN
    rw [if_neg (fun z => e z.1), if_neg e, if_pos (lessO_iff.mpr ⟨a, b, h1, h2, h3⟩)]
theorem edge_M0 (Vv : Wv ws ts) {u v : Nat} (h : v ∈ SS ws ts u) : 0 < M0 ws ts u v := by
  have big : 0 < strN ws ts u v → 0 < M0 ws ts u v := fun h => by
    unfold M0
    split
    · omega
    · exact h
  refine big ?_
  by_cases e : u = v
  · unfold strN
    rw [if_pos e]
    omega
  · rcases List.mem_append.mp (mem_fo.mp h) with h | h
    · obtain ⟨t, ht, hw⟩ := List.mem_flatMap.mp h
      unfold wEd at hw
      unfold strN
      rw [if_neg e]
      split
      · omega
      · split
        · omega
        · rename_i hlt
          rw [if_pos]
          · omega
          · refine List.any_eq_true.mpr ⟨t, ht, ?_⟩
            obtain ⟨s, i, j⟩ := t
            unfold wkW
            cases s with
            | lt =>
              have : (u, v) = (i, j) := by simpa using hw
              cases this
              exact absurd ht hlt
            | le =>
              have : (u, v) = (i, j) := by simpa using hw
              cases this
              simp
            | eq =>
              have : (u, v) = (i, j) ∨ (u, v) = (j, i) := by simpa using hw
              rcases this with this | this <;> cases this <;> simp
            | ne => simp at hw
    · obtain ⟨k, hk⟩ := List.getElem?_of_mem h
      obtain ⟨h1, h2⟩ := List.getElem?_zip_eq_some.mp hk
      rw [List.getElem?_drop, Nat.add_comm] at h2
      obtain ⟨a, ha, ea⟩ := getM h1
      obtain ⟨b, hb, eb⟩ := getM h2
      have ea : ixv ws a = u := ea
      have eb : ixv ws b = v := eb
      have hlt := srt_at (asc_ok Vv) ha hb (by omega)
      have fa := (ixv_get (mem_fxV.mp ((asc_mem _ _).mp (List.mem_of_getElem? ha)))).2
      have fb := (ixv_get (mem_fxV.mp ((asc_mem _ _).mp (List.mem_of_getElem? hb)))).2
      rw [ea] at fa
      rw [eb] at fb
      unfold strN
      rw [if_neg e, if_pos (lessO_iff.mpr ⟨a, b, fa, fb, hlt⟩)]
      omega
theorem M0_diag (u : Nat) : 0 < M0 ws ts u u := by
  unfold M0
  split
  · omega
  · unfold strN
    rw [if_pos rfl]
    omega
theorem snd0 (Vv : Wv ws ts) : Snd (SS ws ts) (SE ws ts) (M0 ws ts) := ⟨M0_le, fun i j h => M0_pos Vv h, fun i j h => ⟨i, j, M0_two h, .refl _, .refl _⟩⟩
theorem cp0 : Cp ws.length (B0 (M0 ws ts)) 0 (fun _ _ => False) (M0 ws ts) := ⟨fun i j _ _ s h => h, fun _ _ _ _ h => h.elim⟩
theorem rows_of (Vv : Wv ws ts) {M : Mx} (s : Snd (SS ws ts) (SE ws ts) M) (c : Cp ws.length (B0 (M0 ws ts)) ws.length (fun _ _ => False) M) : Rows ws.length (SS ws ts) (SE ws ts) M :=
  Rows.of (fun u v h => (eok_edges Vv _ (mem_fo.mp h)).2) (fun u v h => SE_M0 Vv h) (fun u v h => edge_M0 Vv h) M0_diag s c
/-- what the law judges -/
def metM (n : Nat) (ts : List Wn) (M : Mx) : Prop := (∀ i, i < n → M i i ≠ 2) ∧ ∀ t ∈ ts, t.s = .ne → ¬ (0 < M t.i t.j ∧ 0 < M t.j t.i)
theorem met_iff (Vv : Wv ws ts) {M : Mx} (R : Rows ws.length (SS ws ts) (SE ws ts) M) {ps : List Int} {c : Nat} (hP : Pt ws.length (SS ws ts) ps c) (hall : ∀ v, v < ws.length → 0 ≤ pva ps v) : metM ws.length ts M ↔ ¬ badP ws ts ps := by
  have cls : ∀ u v, u < ws.length → v < ws.length → (pva ps u = pva ps v ↔ Rch (SS ws ts) u v ∧ Rch (SS ws ts) v u) := fun u v hu hv => hP.cls u v (hall u hu) (hall v hv)
  constructor
  · rintro ⟨h1, h2⟩ hb
    have hno : ¬ ∃ u v, SE ws ts u v ∧ Rch (SS ws ts) v u := fun z => by
      obtain ⟨i, hi, h⟩ := R.two.mpr z
      exact h1 i hi h
    rcases hb with ⟨t, ht, hs, he⟩ | ⟨i, j, v, w, hij, hi, hj, he⟩
    · obtain ⟨ti, tj⟩ := Vv.tb t ht
      obtain ⟨r1, r2⟩ := (cls _ _ ti tj).mp he
      rcases hs with hs | hs
      · obtain ⟨s, i, j⟩ := t
        have hs : s = .lt := hs
        subst hs
        exact hno ⟨i, j, .inl ht, r2⟩
      · exact h2 t ht hs ⟨(R.pos _ _ ti tj).mpr r1, (R.pos _ _ tj ti).mpr r2⟩
    · have ti := (List.getElem?_eq_some_iff.mp hi).1
      have tj := (List.getElem?_eq_some_iff.mp hj).1
      obtain ⟨r1, r2⟩ := (cls _ _ ti tj).mp he
      by_cases hl : ltV v w
      · exact hno ⟨i, j, .inr ⟨v, w, hi, hj, hl⟩, r2⟩
      · by_cases hl2 : ltV w v
        · exact hno ⟨j, i, .inr ⟨w, v, hj, hi, hl2⟩, r1⟩
        · have := ltV_eq (Vv.vl v (List.mem_of_getElem? hi)).low (Vv.vl w (List.mem_of_getElem? hj)).low hl hl2
          subst this
          exact hij (Vv.un _ _ _ hi hj)
  · intro hb
    refine ⟨fun i hi h => ?_, fun t ht hs h => ?_⟩
    · obtain ⟨u, v, e, r⟩ := R.two.mp ⟨i, hi, h⟩
      obtain ⟨hu, hv, _⟩ := SE_M0 Vv e
      rcases e with e | ⟨a, b, h1, h2, h3⟩
      · exact hb (.inl ⟨_, e, .inl rfl, (cls _ _ hu hv).mpr ⟨.one (want_edge e (by simp)), r⟩⟩)
      · refine hb (.inr ⟨u, v, a, b, fun z => ?_, h1, h2, (cls _ _ hu hv).mpr ⟨known_path Vv h1 h2 h3, r⟩⟩)
        subst z
        rw [h1] at h2
        cases h2
        exact ltV_irrefl _ h3
    · obtain ⟨ti, tj⟩ := Vv.tb t ht
      exact hb (.inl ⟨t, ht, .inr hs, (cls _ _ ti tj).mpr ⟨(R.pos _ _ ti tj).mp h.1, (R.pos _ _ tj ti).mp h.2⟩⟩)
end
end K23
namespace K23
open PySem PySem.Spec PyProof.Rows L2 He TL EL
/-! the values between -/
theorem nrm_pos {t b : Int} (hb : 0 < b) : 0 < (nrm t b).2 := (nrm_low (t := t) (by omega)).1
/-- an order of a normed value by its raw form -/
theorem nrm_ltL {t b : Int} {y : Int × Int} (hb : 0 < b) (hy : 0 < y.2) (h : t * y.2 < y.1 * b) : ltV (nrm t b) y := by
  have e := nrm_eq (t := t) (b := b) (by omega)
  have hp := nrm_pos (t := t) hb
  unfold ltV
  refine Int.lt_of_mul_lt_mul_right (a := b) ?_ (Int.le_of_lt hb)
  have h1 : (nrm t b).1 * y.2 * b = t * y.2 * (nrm t b).2 := by
    rw [Int.mul_assoc, Int.mul_comm y.2 b, ← Int.mul_assoc, e, Int.mul_assoc, Int.mul_comm (nrm t b).2, ← Int.mul_assoc]
  have h2 : y.1 * (nrm t b).2 * b = y.1 * b * (nrm t b).2 := by rw [Int.mul_assoc, Int.mul_comm (nrm t b).2, ← Int.mul_assoc]
  rw [h1, h2]
  exact Int.mul_lt_mul_of_pos_right h hp
theorem nrm_ltR {t b : Int} {y : Int × Int} (hb : 0 < b) (hy : 0 < y.2) (h : y.1 * b < t * y.2) : ltV y (nrm t b) := by
  have e := nrm_eq (t := t) (b := b) (by omega)
  have hp := nrm_pos (t := t) hb
  unfold ltV
  refine Int.lt_of_mul_lt_mul_right (a := b) ?_ (Int.le_of_lt hb)
  have h1 : (nrm t b).1 * y.2 * b = t * y.2 * (nrm t b).2 := by
    rw [Int.mul_assoc, Int.mul_comm y.2 b, ← Int.mul_assoc, e, Int.mul_assoc, Int.mul_comm (nrm t b).2, ← Int.mul_assoc]
  have h2 : y.1 * (nrm t b).2 * b = y.1 * b * (nrm t b).2 := by rw [Int.mul_assoc, Int.mul_comm (nrm t b).2, ← Int.mul_assoc]
  rw [h1, h2]
  exact Int.mul_lt_mul_of_pos_right h hp
theorem nrm_lt {t u b : Int} (hb : 0 < b) (h : t < u) : ltV (nrm t b) (nrm u b) := by
  have e := nrm_eq (t := u) (b := b) (by omega)
  refine nrm_ltL hb (nrm_pos hb) ?_
  rw [e]
  exact Int.mul_lt_mul_of_pos_right h (nrm_pos hb)
theorem nrm_abs {t b : Int} (hb : 0 < b) : (nrm t b).1.natAbs ≤ t.natAbs ∧ (nrm t b).2 ≤ b := by
  have hp := cd_pos (a := t) (b := b) (by omega)
  unfold nrm
  rw [if_neg (by omega)]
  have key : ∀ z : Int, cd t b ∣ z → (z / cd t b).natAbs ≤ z.natAbs := fun z ⟨q, hq⟩ => by
    rw [hq, Int.mul_ediv_cancel_left _ (by omega), Int.natAbs_mul]
    exact Nat.le_mul_of_pos_left _ (by omega)
  have h1 := key t (cd_dvd_l _ _)
  have h2 := key b (cd_dvd_r _ _)
  refine ⟨h1, ?_⟩
  have h3 : 0 ≤ b / cd t b := Int.ediv_nonneg (by omega) (by omega)
  show b / cd t b ≤ b
  omega
/-- between two values, or beyond one -/
def btw (lo hi : oV) (z : Int × Int) : Prop := (∀ l, lo = some l → ltV l z) ∧ ∀ h, hi = some h → ltV z h
def posO (o : oV) : Prop := ∀ z, o = some z → 0 < z.2
def gapT (l h : Int × Int) (m k : Int) : Int := l.1 * h.2 * (m + 1) + (h.1 * l.2 - l.1 * h.2) * (k + 1)
theorem betF_btw {lo hi : oV} {m k : Nat} (h1 : posO lo) (h2 : posO hi) (hlh : ∀ l h, lo = some l → hi = some h → ltV l h) (hk : k < m) : btw lo hi (betF lo hi m k) ∧ 0 < (betF lo hi m k).2 := by
  match lo, hi with
  | none, none => exact ⟨⟨fun _ z => (by cases z), fun _ z => (by cases z)⟩, (show (0 : Int) < 1 by decide)⟩
  | none, some h =>
    have hp := h2 h rfl
    refine ⟨⟨fun _ z => (by cases z), fun x z => ?_⟩, nrm_pos hp⟩
    cases z
    refine nrm_ltL hp hp (Int.mul_lt_mul_of_pos_right ?_ hp)
    have := Int.mul_pos (by omega : (0 : Int) < (m : Int) - (k : Int)) hp
    omega
  | some l, none =>
    have hp := h1 l rfl
    refine ⟨⟨fun x z => ?_, fun _ z => (by cases z)⟩, nrm_pos hp⟩
    cases z
    refine nrm_ltR hp hp (Int.mul_lt_mul_of_pos_right ?_ hp)
    have := Int.mul_pos (by omega : (0 : Int) < (k : Int) + 1) hp
    omega
  | some l, some h =>
    have pl := h1 l rfl
    have ph := h2 h rfl
    have hg : 0 < h.1 * l.2 - l.1 * h.2 := by have := hlh l h rfl rfl; unfold ltV at this; omega
    have hm : (0 : Int) < (m : Int) + 1 := by omega
    have hB : 0 < l.2 * h.2 * ((m : Int) + 1) := Int.mul_pos (Int.mul_pos pl ph) hm
    refine ⟨⟨fun x z => ?_, fun x z => ?_⟩, nrm_pos hB⟩
    · cases z
      refine nrm_ltR hB pl ?_
      have e : l.1 * (l.2 * h.2 * ((m : Int) + 1)) = l.1 * h.2 * ((m : Int) + 1) * l.2 := by
        rw [Int.mul_comm l.2 h.2, Int.mul_assoc h.2, ← Int.mul_assoc l.1, Int.mul_comm l.2, ← Int.mul_assoc]
      rw [e]
      refine Int.mul_lt_mul_of_pos_right ?_ pl
      have := Int.mul_pos hg (by omega : (0 : Int) < (k : Int) + 1)
      omega
    · cases z
      refine nrm_ltL hB ph ?_
      have e : h.1 * (l.2 * h.2 * ((m : Int) + 1)) = h.1 * l.2 * ((m : Int) + 1) * h.2 := by
        rw [Int.mul_assoc l.2, ← Int.mul_assoc h.1, Int.mul_comm h.2, ← Int.mul_assoc]
      rw [e]
      refine Int.mul_lt_mul_of_pos_right ?_ ph
      have h3 : (h.1 * l.2 - l.1 * h.2) * ((k : Int) + 1) < (h.1 * l.2 - l.1 * h.2) * ((m : Int) + 1) := Int.mul_lt_mul_of_pos_left (by omega) hg
      rw [Int.sub_mul (h.1 * l.2) (l.1 * h.2) ((m : Int) + 1)] at h3
      omega
theorem betF_lt {lo hi : oV} {m k j : Nat} (h1 : posO lo) (h2 : posO hi) (hlh : ∀ l h, lo = some l → hi = some h → ltV l h) (hk : k < j) : ltV (betF lo hi m k) (betF lo hi m j) := by
  match lo, hi with
  | none, none => show ((k : Int) * 1 < (j : Int) * 1); omega
  | none, some h =>
    have hp := h2 h rfl
    refine nrm_lt hp ?_
    have := Int.mul_lt_mul_of_pos_right (by omega : (m : Int) - (j : Int) < (m : Int) - (k : Int)) hp
    omega
  | some l, none =>
    have hp := h1 l rfl
    refine nrm_lt hp ?_
    have := Int.mul_lt_mul_of_pos_right (by omega : (k : Int) + 1 < (j : Int) + 1) hp
    omega
  | some l, some h =>
    have pl := h1 l rfl
    have ph := h2 h rfl
    have hg : 0 < h.1 * l.2 - l.1 * h.2 := by have := hlh l h rfl rfl; unfold ltV at this; omega
    have hB : 0 < l.2 * h.2 * ((m : Int) + 1) := Int.mul_pos (Int.mul_pos pl ph) (by omega)
    refine nrm_lt hB ?_
    have := Int.mul_lt_mul_of_pos_left (by omega : (k : Int) + 1 < (j : Int) + 1) hg
    omega
theorem betF_low {lo hi : oV} {m k : Nat} (h1 : posO lo) (h2 : posO hi) : Low (betF lo hi m k).1 (betF lo hi m k).2 := by
  match lo, hi with
  | none, none =>
    refine ⟨(show (0 : Int) < 1 by decide), ?_⟩
    show cd (k : Int) 1 = 1
    unfold cd
    simp
  | none, some h => exact nrm_low (by have := h2 h rfl; omega)
  | some l, none => exact nrm_low (by have := h1 l rfl; omega)
  | some l, some h => exact nrm_low (by have := Int.mul_pos (Int.mul_pos (h1 l rfl) (h2 h rfl)) (by omega : (0 : Int) < (m : Int) + 1); omega)
/-! the filling is in order -/
theorem pw_last {D : List (Int × Int)} (h : SrtV D) {l : Int × Int} (hl : D.getLast? = some l) : ∀ z ∈ D, z = l ∨ ltV z l := by
  obtain ⟨E, rfl⟩ := List.getLast?_eq_some_iff.mp hl
  intro z hz
  rcases List.mem_append.mp hz with hz | hz
  · exact .inr ((List.pairwise_append.mp h).2.2 z hz l (by simp))
  · exact .inl (List.mem_singleton.mp hz)
structure KsOk (ks : List oV) : Prop where
  low : ∀ (j : Nat) v, ks[j]? = some (some v) → Low v.1 v.2
  lt : ∀ (j k : Nat) v w, j < k → ks[j]? = some (some v) → ks[k]? = some (some w) → ltV v w
structure FOk (ks : List oV) (s : Nat) (D : List (Int × Int)) : Prop where
  srt : SrtV D
  low : ∀ z ∈ D, Low z.1 z.2
  at_ : ∀ (j : Nat) v, j < s → ks[j]? = some (some v) → D[j]? = some v
  last : ∀ l, D.getLast? = some l → ∃ j, j < s ∧ ks[j]? = some (some l)
theorem bet_srt {lo hi : oV} {m : Nat} (h1 : posO lo) (h2 : posO hi) (hlh : ∀ l h, lo = some l → hi = some h → ltV l h) : SrtV (betL lo hi m) := by
  unfold betL
  refine List.pairwise_map.mpr ?_
  exact List.Pairwise.imp (fun h => betF_lt h1 h2 hlh h) List.pairwise_lt_range
theorem bet_mem {lo hi : oV} {m : Nat} {z : Int × Int} (h1 : posO lo) (h2 : posO hi) (hlh : ∀ l h, lo = some l → hi = some h → ltV l h) (hz : z ∈ betL lo hi m) : btw lo hi z ∧ Low z.1 z.2 ∧ ∃ k, k < m ∧ z = betF lo hi m k := by
  obtain ⟨k, hk, rfl⟩ := List.mem_map.mp hz
  have hk := List.mem_range.mp hk
  exact ⟨(betF_btw h1 h2 hlh hk).1, betF_low h1 h2, k, hk, rfl⟩
/-- D and what lies between the last of it and hi -/
theorem FOk.more {ks : List oV} {s : Nat} {D : List (Int × Int)} (hK : KsOk ks) (F : FOk ks s D) {hi : oV} {m : Nat} (h2 : posO hi) (hlh : ∀ l h, D.getLast? = some l → hi = some h → ltV l h) : SrtV (D ++ betL D.getLast? hi m) ∧ ∀ z ∈ D ++ betL D.getLast? hi m, Low z.1 z.2 ∧ ∀ h, hi = some h → ltV z h := by
  have h1 : posO D.getLast? := fun z hz => by
    obtain ⟨j, _, hj⟩ := F.last z hz
    exact (hK.low j z hj).1
  refine ⟨List.pairwise_append.mpr ⟨F.srt, bet_srt h1 h2 hlh, fun a ha b hb => ?_⟩, fun z hz => ?_⟩
  · obtain ⟨hb1, hb2, _⟩ := bet_mem h1 h2 hlh hb
    cases hl : D.getLast? with
    | none =>
      rw [List.getLast?_eq_none_iff.mp hl] at ha
      cases ha
    | some l =>
      have h3 := hb1.1 l hl
      rcases pw_last F.srt hl a ha with e | e
      · rw [e]; exact h3
      · exact ltV_trans (F.low a ha).1 (h1 l hl) hb2.1 e h3
  · rcases List.mem_append.mp hz with hz | hz
    · refine ⟨F.low z hz, fun h e => ?_⟩
      cases hl : D.getLast? with
      | none =>
        rw [List.getLast?_eq_none_iff.mp hl] at hz
        cases hz
      | some l =>
        have h3 := hlh l h hl e
        rcases pw_last F.srt hl z hz with e2 | e2
        · rw [e2]; exact h3
        · exact ltV_trans (F.low z hz).1 (h1 l hl) (h2 h e) e2 h3
    · obtain ⟨hb1, hb2, _⟩ := bet_mem h1 h2 hlh hz
      exact ⟨hb2, hb1.2⟩
theorem Fill.ok {ks : List oV} (hK : KsOk ks) {s : Nat} {D : List (Int × Int)} (f : Fill ks s D) : FOk ks s D := by
  induction f with
  | nil => exact ⟨.nil, by simp, fun j v h => absurd h (Nat.not_lt_zero _), fun l h => by cases h⟩
  | @known s k D h f hs hk hgap ih =>
    have hlh : ∀ l h', D.getLast? = some l → some h = some h' → ltV l h' := fun l h' e e2 => by
      cases e2
      obtain ⟨j, hj, hl⟩ := ih.last l e
      exact hK.lt j k l h (by omega) hl hk
    obtain ⟨m1, m2⟩ := FOk.more (m := k - s) hK ih (hi := some h) (fun z e => by cases e; exact (hK.low k h hk).1) hlh
    have lD := f.len
    have lB : (D ++ betL D.getLast? (some h) (k - s)).length = k := by
      rw [List.length_append, lD]
      unfold betL
      rw [List.length_map, List.length_range]
      omega
    refine ⟨List.pairwise_append.mpr ⟨m1, List.pairwise_singleton _ _, fun a ha b hb => ?_⟩, fun z hz => ?_, fun j v hj hv => ?_, fun l hl => ?_⟩
    · rw [List.mem_singleton.mp hb]
      exact (m2 a ha).2 h rfl
    · rcases List.mem_append.mp hz with hz | hz
      · exact (m2 z hz).1
      · rw [List.mem_singleton.mp hz]
        exact hK.low k h hk
    · by_cases e1 : j < s
      · rw [List.getElem?_append_left (by omega), List.getElem?_append_left (by omega)]
        exact ih.at_ j v e1 hv
      · by_cases e2 : j < k
        · rw [hgap j (by omega) e2] at hv
          cases hv
        · have : j = k := by omega
          subst this
          rw [hk] at hv
          cases hv
          rw [List.getElem?_append_right (by omega), lB, Nat.sub_self]
          rfl
    · rw [List.getLast?_concat] at hl
      cases hl
      exact ⟨k, by omega, hk⟩
structure WOk (ks : List oV) (WL : List (Int × Int)) : Prop where
  len : WL.length = ks.length
  srt : SrtV WL
  low : ∀ z ∈ WL, Low z.1 z.2
  at_ : ∀ (j : Nat) v, ks[j]? = some (some v) → WL[j]? = some v
theorem Filled.ok {ks : List oV} (hK : KsOk ks) {WL : List (Int × Int)} (f : Filled ks WL) : WOk ks WL := by
  obtain ⟨s, D, f, hs, hgap, rfl⟩ := f
  have F := f.ok hK
  have lD := f.len
  obtain ⟨m1, m2⟩ := FOk.more (m := ks.length - s) hK F (hi := none) (fun z e => by cases e) (fun l h _ e => by cases e)
  refine ⟨?_, m1, fun z hz => (m2 z hz).1, fun j v hv => ?_⟩
  · rw [List.length_append, lD]
    unfold betL
    rw [List.length_map, List.length_range]
    omega
  · by_cases e1 : j < s
    · rw [List.getElem?_append_left (by omega)]
      exact F.at_ j v e1 hv
    · rw [hgap j (by omega) (List.getElem?_eq_some_iff.mp hv).1] at hv
      cases hv
end K23
namespace K23
open PySem PySem.Spec PyProof.Rows L2 He TL EL
/-! the values found, as the law asks for them -/
section
variable {ws : List (Option (Int × Int))} {ts : List Wn} {ps : List Int} {c : Nat} {kn : List (List Key × V)}
theorem fold_get {j : Nat} {v : Int × Int} : ∀ (l : List (List Key × V)) (a : List oV), (l.foldl (fun a p => a.set (prt ws ps p) (some (keyP p.1))) a)[j]? = some (some v) → a[j]? = some (some v) ∨ ∃ p ∈ l, keyP p.1 = v ∧ prt ws ps p = j
  | [], a, h => .inl h
  | p :: l, a, h => by
    rcases fold_get l _ h with h | ⟨q, hq, e⟩
    · rw [List.getElem?_set] at h
      split at h
      · rename_i e
        split at h
        · exact .inr ⟨p, List.mem_cons_self, Option.some.inj (Option.some.inj h), e⟩
        · cases h
      · exact .inl h
    · exact .inr ⟨q, List.mem_cons_of_mem _ hq, e⟩
theorem fold_put {j : Nat} {v : Int × Int} : ∀ (l : List (List Key × V)) (a : List oV), j < a.length → (a[j]? = some (some v) ∨ ∃ p ∈ l, prt ws ps p = j) → (∀ p ∈ l, prt ws ps p = j → keyP p.1 = v) → (l.foldl (fun a p => a.set (prt ws ps p) (some (keyP p.1))) a)[j]? = some (some v)
  | [], a, _, h, _ => by
    rcases h with h | ⟨p, hp, _⟩
    · exact h
    · cases hp
  | p :: l, a, hj, h, hu => by
    refine fold_put l _ (by rw [List.length_set]; exact hj) ?_ fun q hq => hu q (List.mem_cons_of_mem _ hq)
    by_cases e : prt ws ps p = j
    · refine .inl ?_
      rw [List.getElem?_set, if_pos e, if_pos (by rw [e]; exact hj), hu p List.mem_cons_self e]
    · rcases h with h | ⟨q, hq, e2⟩
      · refine .inl ?_
        rw [List.getElem?_set, if_neg e]
        exact h
      · rcases List.mem_cons.mp hq with z | z
        · subst z
          exact absurd e2 e
        · exact .inr ⟨q, z, e2⟩
/-- the situation: a web that is met -/
structure Met (ws : List (Option (Int × Int))) (ts : List Wn) (ps : List Int) (c : Nat) (kn : List (List Key × V)) : Prop where
  v : Wv ws ts
  p : Pt ws.length (SS ws ts) ps c
  all : ∀ v, v < ws.length → 0 ≤ pva ps v
  ok : ¬ badP ws ts ps
  k : Kn (ws.map woD) kn
theorem Met.nat (M : Met ws ts ps c kn) {u : Nat} (hu : u < ws.length) : ∃ n : Nat, pva ps u = n ∧ n < c := by
  obtain ⟨n, hn⟩ := Int.eq_ofNat_of_zero_le (M.all u hu)
  exact ⟨n, hn, by have := (M.p.lo u).2; omega⟩
theorem Met.of_ks (M : Met ws ts ps c kn) {j : Nat} {v : Int × Int} (h : (ksL ws ps c kn)[j]? = some (some v)) : ∃ u, ws[u]? = some (some v) ∧ pva ps u = j := by
  rcases fold_get kn _ h with h | ⟨p, hp, e, ej⟩
  · rw [List.getElem?_replicate] at h
    split at h <;> cases h
  · have hw : some v ∈ ws := (kn_mem M.k v).mp (List.mem_map.mpr ⟨p, hp, e⟩)
    have hg := (ixv_get hw).2
    obtain ⟨n, hn, _⟩ := M.nat (List.getElem?_eq_some_iff.mp hg).1
    refine ⟨ixv ws v, hg, ?_⟩
    unfold prt at ej
    rw [e, hn, Int.toNat_natCast] at ej
    rw [hn, ej]
theorem Met.inj (M : Met ws ts ps c kn) {u u' : Nat} {v v' : Int × Int} (h : ws[u]? = some (some v)) (h' : ws[u']? = some (some v')) (e : pva ps u = pva ps u') : u = u' := by
  by_cases z : u = u'
  · exact z
  · exact absurd (.inr ⟨u, u', v, v', z, h, h', e⟩) M.ok
theorem Met.ks (M : Met ws ts ps c kn) {u : Nat} {v : Int × Int} (h : ws[u]? = some (some v)) : (ksL ws ps c kn)[(pva ps u).toNat]? = some (some v) := by
  obtain ⟨n, hn, hc⟩ := M.nat (List.getElem?_eq_some_iff.mp h).1
  rw [hn, Int.toNat_natCast]
  obtain ⟨p, hp, e⟩ := List.mem_map.mp ((kn_mem M.k v).mpr (List.mem_of_getElem? h))
  have e : keyP p.1 = v := e
  have key : ∀ q ∈ kn, prt ws ps q = n → keyP q.1 = v := fun q hq eq => by
    have hw : some (keyP q.1) ∈ ws := (kn_mem M.k _).mp (List.mem_map.mpr ⟨q, hq, rfl⟩)
    have hg := (ixv_get hw).2
    obtain ⟨n', hn', _⟩ := M.nat (List.getElem?_eq_some_iff.mp hg).1
    unfold prt at eq
    rw [hn', Int.toNat_natCast] at eq
    have := M.inj h hg (by rw [hn, hn', eq])
    rw [← this, h] at hg
    exact (Option.some.inj (Option.some.inj hg)).symm
  refine fold_put kn _ (by rw [List.length_replicate]; exact hc) (.inr ⟨p, hp, ?_⟩) key
  unfold prt
  rw [e, ixv_un M.v h, hn, Int.toNat_natCast]
theorem Met.kok (M : Met ws ts ps c kn) : KsOk (ksL ws ps c kn) := by
  refine ⟨fun j v h => ?_, fun j k v w hjk hv hw => ?_⟩
  · obtain ⟨u, hu, _⟩ := M.of_ks h
    exact (M.v.vl v (List.mem_of_getElem? hu)).low
  · obtain ⟨u, hu, eu⟩ := M.of_ks hv
    obtain ⟨x, hx, ex⟩ := M.of_ks hw
    have lu := (M.v.vl v (List.mem_of_getElem? hu)).low
    have lx := (M.v.vl w (List.mem_of_getElem? hx)).low
    by_cases h1 : ltV v w
    · exact h1
    · by_cases h2 : ltV w v
      · have := (M.p.back (known_path M.v hx hu h2) (by rw [eu]; exact Int.natCast_nonneg _)).2
        rw [eu, ex] at this
        omega
      · have := ltV_eq lu lx h1 h2
        subst this
        have := M.v.un _ _ _ hu hx
        subst this
        rw [eu] at ex
        omega
abbrev fnd (WL : List (Int × Int)) (ps : List Int) (u : Nat) : Int × Int := WL.getD (pva ps u).toNat (0, 0)
structure Sol (ws : List (Option (Int × Int))) (ts : List Wn) (ps : List Int) (WL : List (Int × Int)) : Prop where
  mem : ∀ u, u < ws.length → fnd WL ps u ∈ WL
  low : ∀ u, u < ws.length → Low (fnd WL ps u).1 (fnd WL ps u).2
  at_ : ∀ (u : Nat) v, ws[u]? = some (some v) → fnd WL ps u = v
  st : ∀ t ∈ ts, t.s.holds (fnd WL ps t.i) (fnd WL ps t.j) = true
  eq : ∀ u v, u < ws.length → v < ws.length → (fnd WL ps u = fnd WL ps v ↔ Rch (SS ws ts) u v ∧ Rch (SS ws ts) v u)
theorem Met.sol (M : Met ws ts ps c kn) {WL : List (Int × Int)} (f : Filled (ksL ws ps c kn) WL) : Sol ws ts ps WL := by
  have W := f.ok M.kok
  have lW : WL.length = c := by rw [W.len, ksL_len]
  have get : ∀ u, u < ws.length → ∃ n : Nat, pva ps u = n ∧ n < c ∧ WL[n]? = some (fnd WL ps u) := fun u hu => by
    obtain ⟨n, hn, hc⟩ := M.nat hu
    refine ⟨n, hn, hc, ?_⟩
    unfold fnd
    rw [hn, Int.toNat_natCast, List.getD_eq_getElem?_getD, List.getElem?_eq_getElem (by omega)]
    rfl
  have lt : ∀ u v, u < ws.length → v < ws.length → pva ps u < pva ps v → ltV (fnd WL ps u) (fnd WL ps v) := fun u v hu hv h => by
    obtain ⟨n, hn, _, en⟩ := get u hu
    obtain ⟨k, hk, _, ek⟩ := get v hv
    exact srt_lt W.srt en ek (by rw [hn, hk] at h; omega)
  have same : ∀ u v, pva ps u = pva ps v → fnd WL ps u = fnd WL ps v := fun u v h => by unfold fnd; rw [h]
  have ne : ∀ u v, u < ws.length → v < ws.length → pva ps u ≠ pva ps v → fnd WL ps u ≠ fnd WL ps v := fun u v hu hv h e => by
    rcases Int.lt_trichotomy (pva ps u) (pva ps v) with z | z | z
    · have := lt u v hu hv z
      rw [e] at this
      exact ltV_irrefl _ this
    · exact h z
    · have := lt v u hv hu z
      rw [e] at this
      exact ltV_irrefl _ this
  have le : ∀ u v, u < ws.length → v < ws.length → pva ps u ≤ pva ps v → ¬ ltV (fnd WL ps v) (fnd WL ps u) := fun u v hu hv h g => by
    by_cases e : pva ps u = pva ps v
    · rw [same u v e] at g
      exact ltV_irrefl _ g
    · have h2 := lt u v hu hv (by omega)
      unfold ltV at g h2
      omega
  refine ⟨fun u hu => ?_, fun u hu => ?_, fun u v h => ?_, fun t ht => ?_, fun u v hu hv => ?_⟩
  · obtain ⟨n, _, _, e⟩ := get u hu
    exact List.mem_of_getElem? e
  · obtain ⟨n, _, _, e⟩ := get u hu
    exact W.low _ (List.mem_of_getElem? e)
  · have hu := (List.getElem?_eq_some_iff.mp h).1
    obtain ⟨n, hn, _, e⟩ := get u hu
    have h1 := W.at_ _ _ (M.ks h)
    rw [hn, Int.toNat_natCast, e] at h1
    exact Option.some.inj h1
  · obtain ⟨ti, tj⟩ := M.v.tb t ht
    have up : t.s ≠ .ne → pva ps t.i ≤ pva ps t.j := fun h => (M.p.up _ _ (want_edge ht h) (M.all _ tj)).2
    have hb := M.ok
    cases hs : t.s with
    | lt =>
      refine decide_eq_true (lt _ _ ti tj ?_)
      have h1 := up (by rw [hs]; simp)
      have h2 : pva ps t.i ≠ pva ps t.j := fun z => hb (.inl ⟨t, ht, .inl hs, z⟩)
      omega
    | le =>
      show (!decide (ltV (fnd WL ps t.j) (fnd WL ps t.i))) = true
      rw [decide_eq_false (le _ _ ti tj (up (by rw [hs]; simp)))]
      rfl
    | eq =>
      refine decide_eq_true (same _ _ ?_)
      have h1 := up (by rw [hs]; simp)
      have h2 := (M.p.up _ _ (want_back ht hs) (M.all _ ti)).2
      omega
    | ne =>
      show (!decide (fnd WL ps t.i = fnd WL ps t.j)) = true
      rw [decide_eq_false (ne _ _ ti tj fun z => hb (.inl ⟨t, ht, .inr hs, z⟩))]
      rfl
  · rw [← M.p.cls u v (M.all u hu) (M.all v hv)]
    exact ⟨fun e => by
      by_cases z : pva ps u = pva ps v
      · exact z
      · exact absurd e (ne u v hu hv z), same u v⟩
end
end K23
namespace K23
open PySem PySem.Spec PyProof.Rows L2 He TL EL
/-! shapes: the mathematics -/
abbrev Vq := Int × Int
/-- no rank is left out -/
def Cov (rs : List Int) : Prop := ∀ x ∈ rs, 0 ≤ x ∧ ∀ k : Nat, (k : Int) < x → (k : Int) ∈ rs
theorem Cov.nat {rs : List Int} (c : Cov rs) {i : Nat} {a : Int} (h : rs[i]? = some a) : ∃ n : Nat, a = n := Int.eq_ofNat_of_zero_le (c a (List.mem_of_getElem? h)).1
theorem cov_uniq {rs rs' : List Int} (hl : rs.length = rs'.length) (h : ∀ (i j : Nat) a b a' b', rs[i]? = some a → rs[j]? = some b → rs'[i]? = some a' → rs'[j]? = some b' → (a < b ↔ a' < b')) (c : Cov rs) (c' : Cov rs') : rs = rs' := by
  have key : ∀ n : Nat, ∀ (i : Nat) (a' : Int), rs[i]? = some (n : Int) → rs'[i]? = some a' → a' = n := by
    intro n
    induction n using Nat.strongRecOn with
    | _ n ih =>
      intro i a' h1 h2
      obtain ⟨m, rfl⟩ := c'.nat h2
      have ge : n ≤ m := by
        cases n with
        | zero => exact Nat.zero_le _
        | succ k =>
          obtain ⟨j, hj⟩ := List.getElem?_of_mem ((c _ (List.mem_of_getElem? h1)).2 k (by omega))
          obtain ⟨b', hb'⟩ : ∃ b', rs'[j]? = some b' := ⟨_, List.getElem?_eq_getElem (by rw [← hl]; exact (List.getElem?_eq_some_iff.mp hj).1)⟩
          have e := ih k (by omega) j b' hj hb'
          subst e
          have := (h j i _ _ _ _ hj h1 hb' h2).mp (by omega)
          omega
      by_cases e : m = n
      · rw [e]
      · obtain ⟨j, hj⟩ := List.getElem?_of_mem ((c' _ (List.mem_of_getElem? h2)).2 n (by omega))
        obtain ⟨b, hb⟩ : ∃ b, rs[j]? = some b := ⟨_, List.getElem?_eq_getElem (by rw [hl]; exact (List.getElem?_eq_some_iff.mp hj).1)⟩
        have lt := (h j i _ _ _ _ hb h1 hj h2).mpr (by omega)
        obtain ⟨k, rfl⟩ := c.nat hb
        have := ih k (by omega) j _ hb hj
        omega
  refine List.ext_getElem? fun i => ?_
  by_cases hi : i < rs.length
  · obtain ⟨a, ha⟩ : ∃ a, rs[i]? = some a := ⟨_, List.getElem?_eq_getElem hi⟩
    obtain ⟨a', ha'⟩ : ∃ a, rs'[i]? = some a := ⟨_, List.getElem?_eq_getElem (by rw [← hl]; exact hi)⟩
    obtain ⟨n, rfl⟩ := c.nat ha
    rw [ha, ha', key n i a' ha ha']
  · rw [List.getElem?_eq_none (by omega), List.getElem?_eq_none (by omega)]
/-- the ranks stand as the values do -/
def Ord (L : List Vq) (rs : List Int) : Prop := L.length = rs.length ∧ ∀ (i j : Nat) x y a b, L[i]? = some x → L[j]? = some y → rs[i]? = some a → rs[j]? = some b → (ltV x y ↔ a < b)
theorem ord_uniq {L : List Vq} {rs rs' : List Int} (o : Ord L rs) (o' : Ord L rs') (c : Cov rs) (c' : Cov rs') : rs = rs' := by
  refine cov_uniq (o.1.symm.trans o'.1) (fun i j a b a' b' h1 h2 h3 h4 => ?_) c c'
  obtain ⟨x, hx⟩ : ∃ x, L[i]? = some x := ⟨_, List.getElem?_eq_getElem (by rw [o.1]; exact (List.getElem?_eq_some_iff.mp h1).1)⟩
  obtain ⟨y, hy⟩ : ∃ x, L[j]? = some x := ⟨_, List.getElem?_eq_getElem (by rw [o.1]; exact (List.getElem?_eq_some_iff.mp h2).1)⟩
  rw [← o.2 i j x y a b hx hy h1 h2, o'.2 i j x y a' b' hx hy h3 h4]
/-- the ranks of values -/
def ixA (L : List Vq) (x : Vq) : Nat := ((asc L).findIdx? fun y => decide (y = x)).getD 0
def rk (L : List Vq) : List Int := L.map fun x => ((ixA L x : Nat) : Int)
theorem ixA_get {L : List Vq} {x : Vq} (h : x ∈ L) : (asc L)[ixA L x]? = some x ∧ ∀ m, m < ixA L x → ∀ y, (asc L)[m]? = some y → y ≠ x := by
  unfold ixA
  cases e : (asc L).findIdx? fun y => decide (y = x) with
  | none =>
    have := List.findIdx?_eq_none_iff.mp e x ((asc_mem _ _).mpr h)
    simp at this
  | some i =>
    obtain ⟨hi, h1, h2⟩ := List.findIdx?_eq_some_iff_getElem.mp e
    refine ⟨by rw [Option.getD_some, List.getElem?_eq_getElem hi, of_decide_eq_true h1], fun m hm y hy z => ?_⟩
    rw [Option.getD_some] at hm
    obtain ⟨hm', rfl⟩ := List.getElem?_eq_some_iff.mp hy
    have := h2 m hm
    rw [z] at this
    simp at this
theorem rk_len (L : List Vq) : (rk L).length = L.length := by unfold rk; rw [List.length_map]
theorem rk_at {L : List Vq} {i : Nat} {x : Vq} (h : L[i]? = some x) : (rk L)[i]? = some ((ixA L x : Nat) : Int) := mapAt (f := fun x => ((ixA L x : Nat) : Int)) h
theorem rk_ord {L : List Vq} (hL : ∀ x ∈ L, Low x.1 x.2) : Ord L (rk L) := by
  refine ⟨(rk_len L).symm, fun i j x y a b h1 h2 h3 h4 => ?_⟩
  rw [rk_at h1] at h3
  rw [rk_at h2] at h4
  cases h3
  cases h4
  have hx := (ixA_get (List.mem_of_getElem? h1)).1
  have hy := (ixA_get (List.mem_of_getElem? h2)).1
  have S := asc_srt hL
  rcases Nat.lt_trichotomy (ixA L x) (ixA L y) with z | z | z
  · exact ⟨fun _ => by omega, fun _ => srt_lt S hx hy z⟩
  · rw [z] at hx
    rw [hx] at hy
    cases hy
    exact ⟨fun k => absurd k (ltV_irrefl _), fun k => by omega⟩
  · refine ⟨fun k => ?_, fun k => by omega⟩
    have q := srt_lt S hy hx z
    unfold ltV at k q
    omega
theorem rk_cov {L : List Vq} (hL : ∀ x ∈ L, Low x.1 x.2) : Cov (rk L) := by
  intro a ha
  obtain ⟨x, hx, rfl⟩ := List.mem_map.mp ha
  refine ⟨Int.natCast_nonneg _, fun k hk => ?_⟩
  obtain ⟨h1, _⟩ := ixA_get hx
  have hl := (List.getElem?_eq_some_iff.mp h1).1
  obtain ⟨y, hy⟩ : ∃ y, (asc L)[k]? = some y := ⟨_, List.getElem?_eq_getElem (by omega)⟩
  have my : y ∈ L := (asc_mem _ _).mp (List.mem_of_getElem? hy)
  refine List.mem_map.mpr ⟨y, my, ?_⟩
  have h2 := (ixA_get my).1
  have S := asc_srt hL
  have e : ixA L y = k := by
    rcases Nat.lt_trichotomy (ixA L y) k with z | z | z
    · exact absurd (srt_lt S h2 hy z) (ltV_irrefl _)
    · exact z
    · exact absurd (srt_lt S hy h2 z) (ltV_irrefl _)
  rw [e]
theorem rk_of {L : List Vq} {rs : List Int} (hL : ∀ x ∈ L, Low x.1 x.2) (o : Ord L rs) (c : Cov rs) : rk L = rs := ord_uniq (rk_ord hL) o (rk_cov hL) c
/-! the shapes of so many constants -/
def isSh (c : Nat) (rs : List Int) : Prop := c ≤ rs.length ∧ Cov rs ∧ ∀ (i : Nat) a b, i + 1 < c → rs[i]? = some a → rs[i + 1]? = some b → a < b
/-- the number of unlike ranks, by any list of them -/
theorem cov_iff {rs ds : List Int} (nd : ds.Nodup) (hm : ∀ k, k ∈ ds ↔ k ∈ rs) : (∀ k : Nat, k < ds.length → (k : Int) ∈ rs) ↔ Cov rs := by
  have sub : ∀ (l m : List Int), l.Nodup → (∀ x ∈ l, x ∈ m) → l.length ≤ m.length := by
    intro l
    induction l with
    | nil => intro m _ _; exact Nat.zero_le _
    | cons x l ih =>
      intro m hn hs
      obtain ⟨h1, h2⟩ := List.nodup_cons.mp hn
      have hx := hs x (by simp)
      have := ih (m.erase x) h2 fun y hy => (List.mem_erase_of_ne (show y ≠ x from fun z => h1 (z ▸ hy))).mpr (hs y (by simp [hy]))
      rw [List.length_erase_of_mem hx] at this
      have := List.length_pos_of_mem hx
      simp only [List.length_cons]
      omega
  have rng : ∀ n : Nat, ((List.range n).map fun k => ((k : Nat) : Int)).Nodup := fun n => by
    refine List.Pairwise.map _ (fun a b h z => h (by omega)) (List.nodup_range (n := n))
  constructor
  · intro h
    -- the unlike ones are just 0 .. n - 1
    have all : ∀ x ∈ rs, 0 ≤ x ∧ x < (ds.length : Nat) := fun x hx => by
      by_cases hh : 0 ≤ x ∧ x < (ds.length : Nat)
      · exact hh
      · exfalso
        have := sub (x :: (List.range ds.length).map fun k => ((k : Nat) : Int)) ds (List.nodup_cons.mpr ⟨fun z => by
          obtain ⟨k, hk, rfl⟩ := List.mem_map.mp z
          have := List.mem_range.mp hk
          exact hh ⟨by omega, by omega⟩, rng _⟩) fun y hy => by
            rcases List.mem_cons.mp hy with rfl | hy
            · exact (hm _).mpr hx
            · obtain ⟨k, hk, rfl⟩ := List.mem_map.mp hy
              exact (hm _).mpr (h k (List.mem_range.mp hk))
        rw [List.length_cons, List.length_map, List.length_range] at this
        omega
    exact fun x hx => ⟨(all x hx).1, fun k hk => h k (by have := (all x hx).2; omega)⟩
  · intro c k hk
    -- were k not there, all would lie below k
    by_cases hh : (k : Int) ∈ rs
    · exact hh
    · exfalso
      have lt : ∀ x ∈ ds, x ∈ (List.range k).map fun k => ((k : Nat) : Int) := fun x hx => by
        have hx := (hm x).mp hx
        obtain ⟨h0, h1⟩ := c x hx
        obtain ⟨n, rfl⟩ := Int.eq_ofNat_of_zero_le h0
        refine List.mem_map.mpr ⟨n, List.mem_range.mpr ?_, rfl⟩
        rcases Nat.lt_trichotomy n k with z | z | z
        · exact z
        · subst z; exact absurd hx hh
        · exact absurd (h1 k (by omega)) hh
      have := sub ds _ nd lt
      rw [List.length_map, List.length_range] at this
      omega
/-! picking -/
theorem pick_rk {L : List Vq} (hL : ∀ x ∈ L, Low x.1 x.2) {ps : List Nat} {qs : List Int} (hps : ∀ p ∈ ps, p < L.length) (hl : qs.length = ps.length)
    (ho : ∀ (i j p p' : Nat) a b a' b', ps[i]? = some p → ps[j]? = some p' → (rk L)[p]? = some a → (rk L)[p']? = some b → qs[i]? = some a' → qs[j]? = some b' → (a < b ↔ a' < b')) (c : Cov qs) : rk (ps.filterMap fun p => L[p]?) = qs := by
  have e : ps.filterMap (fun p => L[p]?) = ps.map fun p => L.getD p (0, 0) := by
    clear ho hl
    induction ps with
    | nil => rfl
    | cons p ps ih =>
      have hp := hps p (by simp)
      rw [List.filterMap_cons, List.map_cons, List.getElem?_eq_getElem hp]
      show L[p] :: _ = _
      rw [ih fun q hq => hps q (by simp [hq]), List.getD_eq_getElem?_getD, List.getElem?_eq_getElem hp]
      rfl
  have mem : ∀ x ∈ ps.map (fun p => L.getD p (0, 0)), Low x.1 x.2 := fun x hx => by
    obtain ⟨p, hp, rfl⟩ := List.mem_map.mp hx
    rw [List.getD_eq_getElem?_getD, List.getElem?_eq_getElem (hps p hp)]
    exact hL _ (List.getElem_mem _)
  rw [e]
  refine rk_of mem ⟨by rw [List.length_map, hl], fun i j x y a' b' h1 h2 h3 h4 => ?_⟩ c
  obtain ⟨p, hp, rfl⟩ := getM h1
  obtain ⟨p', hp', rfl⟩ := getM h2
  have lp := hps p (List.mem_of_getElem? hp)
  have lp' := hps p' (List.mem_of_getElem? hp')
  have g : ∀ {p : Nat} (h : p < L.length), L[p]? = some (L.getD p (0, 0)) := fun {p} h => by
    rw [List.getD_eq_getElem?_getD, List.getElem?_eq_getElem h]
    rfl
  have k1 := rk_at (g lp)
  have k2 := rk_at (g lp')
  rw [(rk_ord hL).2 p p' _ _ _ _ (g lp) (g lp') k1 k2, ho i j p p' _ _ a' b' hp hp' k1 k2 h3 h4]
end K23
namespace K23
open PySem PySem.Spec PyProof.Rows L2 He TL EL
/-! dicts of ranks -/
theorem keys_put {kn : List (Key × V)} {k : Key} {v : V} : (putK kn k v).map (·.1) = if (valV kn k).isSome = true then kn.map (·.1) else kn.map (·.1) ++ [k] := by
  unfold putK
  rw [valV_any]
  split
  · rw [List.map_map]
    refine List.map_congr_left fun p _ => ?_
    show (if p.1 = k then (p.1, v) else p).1 = p.1
    split <;> rfl
  · rw [List.map_append]
    rfl
structure Kds (kn : List (Key × V)) (rs : List Int) : Prop where
  nd : (kn.map (·.1)).Nodup
  ky : ∀ p ∈ kn, ∃ r : Int, p.1 = Sum.inl r
  vl : ∀ r : Int, valV kn (.inl r) = if r ∈ rs then some (.bl true) else none
  len : kn.length ≤ rs.length
theorem Kds.nil : Kds [] [] := ⟨List.nodup_nil, by simp, fun r => by simp [valV_nil], Nat.le_refl _⟩
theorem Kds.put {kn : List (Key × V)} {rs : List Int} (d : Kds kn rs) (r : Int) : Kds (putK kn (.inl r) (.bl true)) (rs ++ [r]) := by
  have hk := keys_put (kn := kn) (k := .inl r) (v := .bl true)
  have hv := d.vl r
  have vl : ∀ q : Int, valV (putK kn (.inl r) (.bl true)) (.inl q) = if q ∈ rs ++ [r] then some (.bl true) else none := fun q => by
    rw [valV_put, d.vl q]
    by_cases e : q = r
    · subst e
      simp
    · rw [if_neg (fun z => e (by injection z))]
      have e2 : q ∈ rs ++ [r] ↔ q ∈ rs := by simp [e]
      by_cases h : q ∈ rs
      · rw [if_pos h, if_pos (e2.mpr h)]
      · rw [if_neg h, if_neg (fun z => h (e2.mp z))]
  by_cases hr : r ∈ rs
  · rw [if_pos hr] at hv
    rw [hv] at hk
    have hk : (putK kn (.inl r) (.bl true)).map (·.1) = kn.map (·.1) := hk
    refine ⟨by rw [hk]; exact d.nd, fun p hp => ?_, vl, ?_⟩
    · have : p.1 ∈ (putK kn (.inl r) (.bl true)).map (·.1) := List.mem_map.mpr ⟨p, hp, rfl⟩
      rw [hk] at this
      obtain ⟨p', hp', e⟩ := List.mem_map.mp this
      rw [← e]
      exact d.ky p' hp'
    · have := congrArg List.length hk
      rw [List.length_map, List.length_map] at this
      rw [this, List.length_append]
      have := d.len
      omega
  · rw [if_neg hr] at hv
    rw [putK_new _ hv] at vl ⊢
    clear hk
    refine ⟨?_, fun p hp => ?_, vl, ?_⟩
    · rw [List.map_append]
      refine List.nodup_append.mpr ⟨d.nd, by simp, fun a ha b hb => ?_⟩
      rw [List.map_singleton, List.mem_singleton] at hb
      subst hb
      exact fun e => valV_none hv (by have e' : a = .inl r := e; rw [← e']; exact ha)
    · rcases List.mem_append.mp hp with hp | hp
      · exact d.ky p hp
      · exact ⟨r, by rw [List.mem_singleton.mp hp]⟩
    · rw [List.length_append, List.length_append]
      have := d.len
      simp only [List.length_singleton]
      omega
/-- the keys as ints -/
def kI : List (Key × V) → List Int
  | [] => []
  | (.inl r, _) :: kn => r :: kI kn
  | (.inr _, _) :: kn => kI kn
theorem kI_map : ∀ {kn : List (Key × V)}, (∀ p ∈ kn, ∃ r : Int, p.1 = Sum.inl r) → kn.map (·.1) = (kI kn).map Sum.inl
  | [], _ => rfl
  | (.inl r, v) :: kn, h => by
    show Sum.inl r :: kn.map (·.1) = Sum.inl r :: (kI kn).map Sum.inl
    rw [kI_map fun p hp => h p (List.mem_cons_of_mem _ hp)]
  | (.inr z, v) :: kn, h => by
    obtain ⟨r, e⟩ := h (.inr z, v) List.mem_cons_self
    cases e
theorem valV_isSome {kn : List (Key × V)} {k : Key} : (valV kn k).isSome = true ↔ k ∈ kn.map (·.1) := by
  rw [← valV_any, List.any_eq_true]
  constructor
  · rintro ⟨p, hp, e⟩
    exact List.mem_map.mpr ⟨p, hp, of_decide_eq_true e⟩
  · intro h
    obtain ⟨p, hp, e⟩ := List.mem_map.mp h
    exact ⟨p, hp, decide_eq_true e⟩
theorem Kds.ints {kn : List (Key × V)} {rs : List Int} (d : Kds kn rs) : (kI kn).Nodup ∧ (∀ k, k ∈ kI kn ↔ k ∈ rs) ∧ (kI kn).length = kn.length := by
  have e := kI_map d.ky
  refine ⟨?_, fun k => ?_, ?_⟩
  · have nd := d.nd
    rw [e] at nd
    exact List.Pairwise.of_map Sum.inl (fun a b h z => h (congrArg Sum.inl z)) nd
  · have h1 : k ∈ kI kn ↔ (Sum.inl k : Key) ∈ kn.map (·.1) := by
      rw [e]
      constructor
      · exact fun h => List.mem_map.mpr ⟨k, h, rfl⟩
      · intro h
        obtain ⟨a, ha, ea⟩ := List.mem_map.mp h
        injection ea with ea
        rw [← ea]
        exact ha
    rw [h1, ← valV_isSome, d.vl k]
    by_cases h : k ∈ rs
    · simp [h]
    · simp [h]
  · have := congrArg List.length e
    rw [List.length_map, List.length_map] at this
    exact this.symm
section
variable {P : Program} {w : World} {K : PySem.W.Frag} {mg : Str → Option Value} {base : Heap}
/-! is_shape -/
def spIsSh (K : PySem.W.Frag) : Sp := fun vs H Q _ => ∃ a rs c, vs = [.ref a, nv c] ∧ ((SqL K H a (rs.map V.int) ∧ Q (.bl false) H) ∨
  (SqT K H a (rs.map V.int) ∧ c ≤ rs.length ∧ rs.length ≤ 100 ∧ ∀ (b : Bool) H', (b = true ↔ isSh c rs) → Same H H' → Q (.bl b) H'))
theorem d_is_shape (T : Txt K mg) : Dn P w K mg base CX0 2 "is_shape" (spIsSh K) := by
  obtain ⟨fd, F⟩ := T.f_is_shape
  have D_is_whole := d_is_whole (P := P) (w := w) (base := base) T
  refine dnN T.g_is_shape F (fun _ _ _ _ _ _ us hl => match us, hl with | [_, _], _ => rfl) sc_is_shape (fun vs H Q E h => ?_) (fun cdv A outer s H vs Q E hr h => ?_)
  · obtain ⟨a, rs, c, rfl, _⟩ := h
    rfl
  · obtain ⟨a, rs, c, rfl, hh⟩ := h
    refine ⟨_, PSs.nox (pss_cons (ps_if (PW.pt (pw_or (pt_not (pt_val (pe_callB call_isi (by rfl) T.z_isinstance (by decide +kernel) (pa_cons (pv 0) (pa_cons (pe_bltn (v := .ty "tuple") (by rfl) T.z_tuple (by decide +kernel) rfl) pa_nil))))) (pw_or1 (pt_cmpR op_lt (pe_callB call_len_seq (by rfl) T.z_len (by decide +kernel) (pa_cons (pv 0) pa_nil)) (pv 1) (nomark _))))) (pss_one (ps_ret pe_bl)) pss_nil)
      (pss_cons (ps_if (pt_not (pt_val (pe_callB (cr_all rfl) (by rfl) T.z_all (by decide +kernel) (pa_cons (pe_lc (own := [("rank", 2)]) (tt := tYes) (by rfl) sc_is_shape.nd (pi_tup (pv 0)) (blkOk_by (own := [("rank", 2)]) (N := ["thing", "constants", "rank", "present", "at"]) (sc := defScope s_is_shape) (by decide +kernel)) (fun _ _ _ _ _ => (pg_name (i := 2) sc_is_shape.nd rfl (.inl rfl))) (fun _ _ _ _ _ => pts_nil) (fun _ _ _ _ _ => (cl D_is_whole (hr.mono (by decide)) (pa_cons (pv 2) pa_nil)))) pa_nil)))) (pss_one (ps_ret pe_bl)) pss_nil)
      (pss_cons (ps_set (i := 3) sc_is_shape.nd rfl (.inr rfl) (pe_dcG (own := [("rank", 2)]) (tt := tYes) NilD.k hr.units0 (by rfl) sc_is_shape.nd (pi_tup (pv 0)) (blkOk_by (own := [("rank", 2)]) (N := ["thing", "constants", "rank", "present", "at"]) (sc := defScope s_is_shape) (by decide +kernel)) (fun _ _ _ _ _ => (pg_name (i := 2) sc_is_shape.nd rfl (.inl rfl))) (fun _ _ _ _ _ => pts_nil) (fun _ _ _ _ _ => (pv 2)) (fun _ _ _ _ _ => pe_bl)))
      (pss_cons (ps_if (pt_not (pt_val (pe_callB (cr_all rfl) (by rfl) T.z_all (by decide +kernel) (pa_cons (pe_lc (own := [("rank", 2)]) (tt := tYes) (by rfl) sc_is_shape.nd (pi_range1 (by rfl) T.z_range (pa_cons (pe_callB call_lenD (by rfl) T.z_len (by decide +kernel) (pa_cons (pv 3) pa_nil)) pa_nil)) (blkOk_by (own := [("rank", 2)]) (N := ["thing", "constants", "rank", "present", "at"]) (sc := defScope s_is_shape) (by decide +kernel)) (fun _ _ _ _ _ => (pg_name (i := 2) sc_is_shape.nd rfl (.inl rfl))) (fun _ _ _ _ _ => pts_nil) (fun _ _ _ _ _ => (pe_cmp (pc_din (hu_of hr) (pv 2) (pv 3)) rfl))) pa_nil)))) (pss_one (ps_ret pe_bl)) pss_nil)
      (pss_one (ps_ret (pe_callB (cr_all rfl) (by rfl) T.z_all (by decide +kernel) (pa_cons (pe_lc (own := [("at", 4)]) (tt := tYes) (by rfl) sc_is_shape.nd (pi_range1 (by rfl) T.z_range (pa_cons (pe_op op_sub (pv 1) pe_int) pa_nil)) (blkOk_by (own := [("at", 4)]) (N := ["thing", "constants", "rank", "present", "at"]) (sc := defScope s_is_shape) (by decide +kernel)) (fun _ _ _ _ _ => (pg_name (i := 4) sc_is_shape.nd rfl (.inl rfl))) (fun _ _ _ _ _ => pts_nil) (fun _ _ _ _ _ => (pe_cmpR op_lt (pe_ix (show IxR _ (rIxT K) from ix_tup) (pv 0) (pv 4) (fun _ _ => rfl)) (pe_ix (show IxR _ (rIxT K) from ix_tup) (pv 0) (pe_op op_add (pv 4) pe_int) (fun _ _ => rfl)) (nomark _)))) pa_nil)))))))), ?_⟩
    rcases hh with ⟨hL, hQ⟩ | ⟨hT, hc, hn, hQ⟩
    · refine ⟨_, rfl, _, _, _, _, _, rfl, .ty _, SqL.ty hL, kit_ty (kit_k .tup .lst), _, rfl, iteT ?_⟩
      exact hQ
    · refine ⟨_, rfl, _, _, _, _, _, rfl, .ty _, SqT.ty hT, kit_ty (kit_k .tup .tup), _, rfl, iteF ?_⟩
      refine ⟨_, rfl, _, _, rfl, .inr hT, _, rfl, _, _, rfl, rfl, _, rfl, if_neg_of (decide_eq_false (by rw [List.length_map]; omega)) ?_⟩
      -- all whole
      refine ⟨_, rfl, a, rfl, ⟨_, hT⟩, fun L nL => ?_⟩
      refine lc_it (walk_tup (xs := rs.map V.int)) (fun i H' => H' = upd H L (.lst ((List.replicate i true).map V.bl))) rfl (fun i H' _ e => by rw [e]; exact Same.seqT (same_upd nL) hT) ?_ ?_
      · rintro i v H' H'' hi e ⟨rfl, hv⟩
        subst e
        obtain ⟨r, hr2, rfl⟩ := getM hv
        refine ⟨rfl, tYes_of ⟨_, rfl, .int r, .d (.int r), rfl, .int r, _, upd_same, ?_, ?_⟩⟩
        · rw [List.length_map, List.length_replicate]
          rw [List.length_map] at hi
          exact Nat.lt_of_lt_of_le hi (Nat.le_trans hn (by decide))
        · rw [upd_upd, List.replicate_succ', List.map_append]
          rfl
      · rintro H1 rfl
        refine ⟨L, _, rfl, SqL.of upd_same, _, rfl, ?_⟩
        have hall : ∀ n, (List.replicate n true).all id = true := fun n => by
          induction n with
          | zero => rfl
          | succ n ih => rw [List.replicate_succ, List.all_cons, ih]; rfl
        rw [hall]
        refine iteF ?_
        have s1 : Same H (upd H L (.lst ((List.replicate (rs.map V.int).length true).map V.bl))) := same_upd nL
        generalize upd H L _ = H1 at s1
        -- the unlike ones
        refine ⟨_, rfl, a, rfl, ⟨_, Same.seqT s1 hT⟩, fun D nD => ?_⟩
        refine dcG_it (walk_tup (xs := rs.map V.int)) (fun i H' => ∃ kn, H' = upd H1 D (.dK kn) ∧ Kds kn (rs.take i)) ⟨[], rfl, .nil⟩ (fun i H' _ e => by obtain ⟨kn, e, _⟩ := e; rw [e]; exact Same.seqT (s1.trans (same_upd nD)) hT) ?_ ?_
        · rintro i v H' H'' hi ⟨kn, e, kd⟩ ⟨e', hv⟩
          subst e' e
          obtain ⟨r, hr2, rfl⟩ := getM hv
          refine ⟨rfl, tYes_of ?_⟩
          refine ⟨_, rfl, _, DPut.k (k := .inl r) upd_same (Nat.lt_of_le_of_lt kd.len (Nat.lt_of_le_of_lt (by rw [List.length_take]; omega : (rs.take i).length ≤ 100) (by decide))), ?_⟩
          rw [upd_upd]
          refine ⟨_, rfl, ?_⟩
          rw [tk1 hr2]
          exact kd.put r
        · rintro H2 ⟨kn, rfl, kd⟩
          rw [List.length_map, List.take_length] at kd
          have s2 : Same H (upd H1 D (.dK kn)) := s1.trans (same_upd nD)
          obtain ⟨dn, dm, dl⟩ := kd.ints
          generalize eH2 : upd H1 D (.dK kn) = H2 at s2
          have D2 : H2 D = some (.dK kn) := eH2 ▸ upd_same
          clear eH2
          have hcov : Cov rs ↔ ∀ k : Nat, k < kn.length → (k : Int) ∈ rs := by rw [← cov_iff dn dm, dl]
          refine ⟨_, rfl, D, _, rfl, D2, kn.length, rfl, by omega, (by have := kd.len; omega), fun L2' nL2 => ?_⟩
          refine lc_it walk_range (fun i H' => H' = upd H2 L2' (.lst (((List.range i).map fun k : Nat => decide ((k : Int) ∈ rs)).map V.bl))) rfl (fun _ _ _ _ => trivial) ?_ ?_
          · rintro i v H' H'' hi e ⟨rfl, rfl⟩
            subst e
            have hi : i < kn.length := by omega
            have hLD : D ≠ L2' := fun z => by rw [← z, D2] at nL2; cases nL2
            show gName 2 (V.int (0 + (i : Int))) _ _ _
            rw [Int.zero_add]
            refine ⟨rfl, tYes_of ⟨_, rfl, _, rfl, D, _, rfl, DGet.k (k := .inl (i : Int)) (by rw [upd_ne hLD]; exact D2), ?_⟩⟩
            refine ⟨_, upd_same, ?_, ?_⟩
            · rw [List.length_map, List.length_map, List.length_range]
              exact Nat.lt_of_lt_of_le hi (Nat.le_trans kd.len (Nat.le_trans hn (by decide)))
            · rw [upd_upd, List.range_succ, List.map_append, List.map_append, kd.vl (i : Int)]
              by_cases h : (i : Int) ∈ rs
              · simp [h]
              · simp [h]
          · rintro H3 rfl
            refine ⟨L2', _, rfl, SqL.of upd_same, _, rfl, ?_⟩
            have e0 : ((kn.length : Nat) : Int).toNat = kn.length := Int.toNat_natCast _
            have s3 : Same H (upd H2 L2' (.lst (((List.range (((kn.length : Nat) : Int)).toNat).map fun k : Nat => decide ((k : Int) ∈ rs)).map V.bl))) := s2.trans (same_upd nL2)
            generalize upd H2 L2' _ = H3 at s3
            rw [e0]
            by_cases hC : Cov rs
            · have hb : ((List.range kn.length).map fun k : Nat => decide ((k : Int) ∈ rs)).all id = true := by
                rw [List.all_eq_true]
                intro b hb
                obtain ⟨k, hk, rfl⟩ := List.mem_map.mp hb
                exact decide_eq_true (hcov.mp hC k (List.mem_range.mp hk))
              rw [hb]
              refine iteF ?_
              -- the constants ascend
              refine ⟨_, rfl, _, _, rfl, rfl, (c : Int) - 1, rfl, by omega, by omega, fun L3 nL3 => ?_⟩
              have asat : ∀ i : Nat, (i : Int) < (c : Int) - 1 → ∃ x y, rs[i]? = some x ∧ rs[i + 1]? = some y := fun i hi => ⟨_, _, List.getElem?_eq_getElem (by omega), List.getElem?_eq_getElem (by omega)⟩
              refine lc_it walk_range (fun i H' => Same H3 H' ∧ ∃ bs : List Bool, H' L3 = some (.lst (bs.map V.bl)) ∧ bs.length = i ∧ ((bs.all id = true) ↔ ∀ (k : Nat) x y, k < i → rs[k]? = some x → rs[k + 1]? = some y → x < y)) ⟨same_upd nL3, [], upd_same, rfl, fun _ k x y h => absurd h (Nat.not_lt_zero _), fun _ => rfl⟩ (fun _ _ _ _ => trivial) ?_ ?_
              · rintro i v H' H'' hi ⟨s4, bs, h1, h2, h3⟩ ⟨rfl, rfl⟩
                have hi' : (i : Int) < (c : Int) - 1 := by omega
                obtain ⟨x, y, hx, hy⟩ := asat i hi'
                show gName 4 (V.int (0 + (i : Int))) _ _ _
                rw [Int.zero_add]
                have hT4 := Same.seqT (s3.trans s4) hT
                refine ⟨rfl, tYes_of ⟨_, rfl, _, rfl, _, _, _, _, rfl, rfl, hT4, atI_nat (mapAt (f := V.int) hx), _, rfl, _, rfl, _, _, rfl, rfl, a, _, _, _, rfl, rfl, hT4, (show atI (rs.map V.int) ((i : Int) + 1) = some (.int y) by rw [show ((i : Int) + 1) = ((i + 1 : Nat) : Int) by omega]; exact atI_nat (mapAt (f := V.int) hy)), _, _, rfl, rfl, _, h1, ?_, same_upN s4 nL3, bs ++ [decide (x < y)], ?_, ?_, ?_⟩⟩
                · rw [List.length_map, h2]
                  exact Nat.lt_of_le_of_lt (by omega : i ≤ 100) (by decide)
                · rw [upd_same, List.map_append]
                  rfl
                · rw [List.length_append, h2]
                  rfl
                · rw [List.all_append, Bool.and_eq_true, h3]
                  simp only [List.all_cons, List.all_nil, Bool.and_true, id, decide_eq_true_eq]
                  constructor
                  · rintro ⟨k1, k2⟩ k x' y' hk hx' hy'
                    by_cases e : k = i
                    · subst e
                      rw [hx] at hx'
                      rw [hy] at hy'
                      cases hx'
                      cases hy'
                      exact k2
                    · exact k1 k x' y' (by omega) hx' hy'
                  · exact fun k => ⟨fun m x' y' hm => k m x' y' (by omega), k i x y (by omega) hx hy⟩
              · rintro H4 ⟨s4, bs, h1, h2, h3⟩
                refine ⟨L3, bs, rfl, SqL.of h1, hQ _ H4 ?_ (s3.trans s4)⟩
                rw [h3]
                exact ⟨fun k => ⟨hc, hC, fun i x y hi hx hy => k i x y (by omega) hx hy⟩, fun k i x y hi hx hy => k.2.2 i x y (by omega) hx hy⟩
            · have hb : ((List.range kn.length).map fun k : Nat => decide ((k : Int) ∈ rs)).all id = false := by
                cases hx : ((List.range kn.length).map fun k : Nat => decide ((k : Int) ∈ rs)).all id with
                | false => rfl
                | true =>
                  refine absurd (hcov.mpr fun k hk => ?_) hC
                  exact of_decide_eq_true (List.all_eq_true.mp hx _ (List.mem_map.mpr ⟨k, List.mem_range.mpr hk, rfl⟩))
              rw [hb]
              refine iteT ?_
              exact hQ false H3 ⟨fun z => (by cases z), fun z => absurd z.2.1 hC⟩ s3
end
end K23
namespace K23
open PySem PySem.Spec PyProof.Rows L2 He TL EL
section
variable {P : Program} {w : World} {K : PySem.W.Frag} {mg : Str → Option Value} {base : Heap}
/-! shape_of -/
def spShapeOf (K : PySem.W.Frag) : Sp := fun vs H Q _ => ∃ av ac us ws xs cs, vs = [.ref av, .ref ac] ∧ SqL K H av us ∧ DpAll K H us (xs.map valD) ∧ SqL K H ac ws ∧ DpAll K H ws (cs.map valD) ∧ (∀ x ∈ xs, Vl x) ∧ (∀ x ∈ cs, Vl x) ∧ xs.length ≤ 50 ∧ cs.length ≤ 50 ∧
  ∀ p H', Same H H' → H' p = some (.tup ((rk (cs ++ xs)).map V.int)) → Q (.ref p) H'
theorem d_shape_of (T : Txt K mg) : Dn P w K mg base CX0 3 "shape_of" (spShapeOf K) := by
  obtain ⟨fd, F⟩ := T.f_shape_of
  have D_ascending := d_ascending (P := P) (w := w) (base := base) T
  refine dnN T.g_shape_of F (fun _ _ _ _ _ _ us hl => match us, hl with | [_, _], _ => rfl) sc_shape_of (fun vs H Q E h => ?_) (fun cdv A outer s H vs Q E hr h => ?_)
  · obtain ⟨av, ac, us, ws, xs, cs, rfl, _⟩ := h
    rfl
  · obtain ⟨av, ac, us, ws, xs, cs, rfl, hx, dx, hc, dc, vx, vc, lx, lc, hQ⟩ := h
    refine ⟨_, PSs.nox (pss_cons (ps_set (i := 2) sc_shape_of.nd rfl (.inl rfl) (pe_op op_cat (pe_callTy call_list_of (by rfl) T.z_list (by decide +kernel) (pa_cons (pv 1) pa_nil)) (pe_callTy call_list_of (by rfl) T.z_list (by decide +kernel) (pa_cons (pv 0) pa_nil))))
      (pss_cons (ps_set (i := 3) sc_shape_of.nd rfl (.inr rfl) (cl D_ascending (hr.mono (by decide)) (pa_cons (pv 2) pa_nil)))
      (pss_one (ps_ret (pe_callTy call_tuple_of (by rfl) T.z_tuple (by decide +kernel) (pa_cons (pe_lc (own := [("one", 4)]) (tt := tYes) (by rfl) sc_shape_of.nd (pi_list (pv 2)) (blkOk_by (own := [("one", 4)]) (N := ["values", "constants", "everything", "unlike", "one"]) (sc := defScope s_shape_of) (by decide +kernel)) (fun _ _ _ _ _ => (pg_name (i := 4) sc_shape_of.nd rfl (.inl rfl))) (fun _ _ _ _ _ => pts_nil) (fun _ _ _ _ _ => (show PE _ _ (tBM K "list" (rIndexD K) (tVar 3) (tCons (tVar 4) tNil)) from pe_bm PySem.F.plainAttrs_list PySem.F.slot_list_index PySem.F.type_list_index (show MtR _ "list.index" (rIndexD K) from mt_indexD (u65 hr)) (pv 3) (pa_cons (pv 4) pa_nil)))) pa_nil)))))), ?_⟩
    have lus : us.length = xs.length := by rw [dp_len dx]
    have lws : ws.length = cs.length := by rw [dp_len dc]
    refine ⟨_, rfl, _, _, rfl, .inl hc, fun l1 n1 => ?_⟩
    generalize eH1 : upd H l1 _ = H1
    have s1 : Same H H1 := eH1 ▸ same_upd n1
    have e1 : H1 l1 = some _ := eH1 ▸ upd_same
    refine ⟨_, rfl, _, _, rfl, .inl (Same.seq s1 hx), fun l2 n2 => ?_⟩
    generalize eH2 : upd H1 l2 _ = H2
    have s2 : Same H1 H2 := eH2 ▸ same_upd n2
    have e2 : H2 l2 = some _ := eH2 ▸ upd_same
    refine ⟨l1, l2, _, _, rfl, rfl, s2 _ _ e1, e2, Nat.le_trans (by omega : ws.length + us.length ≤ 1000) (by decide), fun ev nev => ?_⟩
    generalize eH3 : upd H2 ev _ = H3
    have s3 : Same H2 H3 := eH3 ▸ same_upd nev
    have e3 : H3 ev = some _ := eH3 ▸ upd_same
    have s03 := s1.trans (s2.trans s3)
    have hall : ∀ x ∈ cs ++ xs, Vl x := fun x h => (List.mem_append.mp h).elim (vc x) (vx x)
    have d3 : DpAll K H3 (ws ++ us) ((cs ++ xs).map valD) := by
      rw [List.map_append]
      exact DpAll.app (DpAll.same s03 dc) (DpAll.same s03 dx)
    refine ⟨_, rfl, ev, _, cs ++ xs, rfl, SqL.of e3, d3, hall, (by rw [List.length_append]; omega), fun p us' H4 np s4 p4 d4 _ => ?_⟩
    have low : ∀ x ∈ cs ++ xs, Low x.1 x.2 := fun x h => (hall x h).low
    have ev4 := s4 _ _ e3
    have d34 := DpAll.same s4 d3
    generalize cs ++ xs = L at *
    have ll : (ws ++ us).length = L.length := by rw [dp_len d3]
    refine ⟨_, rfl, ev, rfl, ⟨_, SqL.of ev4⟩, fun R nR => ?_⟩
    have hRe : ev ≠ R := fun z => by rw [← z, ev4] at nR; cases nR
    have hRp : p ≠ R := fun z => by rw [← z, p4] at nR; cases nR
    refine lc_it (walk_list (xs := ws ++ us)) (fun i H' => H' = upd H4 R (.lst (((rk L).take i).map V.int))) rfl (fun i H' _ e => by rw [e]; exact SqL.of (by rw [upd_ne hRe]; exact ev4)) ?_ ?_
    · rintro i v H' H'' hi e ⟨rfl, hv⟩
      subst e
      obtain ⟨d, hd, hdp⟩ := DpAll.get d34 hv
      obtain ⟨x, hx', rfl⟩ := getM hd
      have m := List.mem_of_getElem? hx'
      obtain ⟨g1, g2⟩ := ixA_get m
      have sR : Same H4 (upd H4 R (.lst (((rk L).take i).map V.int))) := same_upd nR
      refine ⟨rfl, tYes_of ⟨_, rfl, .inl ⟨rfl, _, SqL.of (sR _ _ p4)⟩, _, rfl, p, v, valD x, (asc L).map valD, ixA L x, valD x, rfl, rfl, .lst (SqL.of (sR _ _ p4)) (DpAll.same sR d4), Dp.same sR hdp, Pds.shaped (pds_val _), (Pd.valD x).shaped, mapAt g1, by rw [eqv_valD]; exact decide_eq_true rfl, fun k z' hk hz' => ?_, _, upd_same, ?_, ?_⟩⟩
      · obtain ⟨y, hy, rfl⟩ := getM hz'
        rw [eqv_valD]
        exact decide_eq_false (g2 k hk y hy)
      · rw [List.length_map, List.length_take]
        exact Nat.lt_of_le_of_lt (Nat.min_le_left _ _) (Nat.lt_of_lt_of_le hi (Nat.le_trans (by rw [List.length_append]; omega : (ws ++ us).length ≤ 1000) (by decide)))
      · rw [upd_upd, tk1 (rk_at hx'), List.map_append]
        rfl
    · rintro H5 rfl
      have s5 : Same H (upd H4 R (.lst (((rk L).take (ws ++ us).length).map V.int))) := s03.trans (s4.trans (same_upd nR))
      rw [ll, ← rk_len L, List.take_length] at s5 ⊢
      refine ⟨R, _, rfl, .inl ⟨SqL.of upd_same, fun t nt => ?_⟩⟩
      exact hQ t _ (s5.trans (same_upd nt)) upd_same
/-! picked -/
/-- numbers of ranks -/
def NB (ns : List Int) (i : Nat) : List (Key × V) := (List.range i).map fun k => ((Sum.inl (ns.getD k 0) : Key), nv k)
theorem NB_succ (ns : List Int) (i : Nat) : NB ns (i + 1) = NB ns i ++ [(Sum.inl (ns.getD i 0), nv i)] := by
  unfold NB
  rw [List.range_succ, List.map_append]
  rfl
theorem NB_none {ns : List Int} (h : ns.Pairwise (· < ·)) {i : Nat} (hi : i < ns.length) : valV (NB ns i) (.inl (ns.getD i 0)) = none := by
  refine valV_miss fun z => ?_
  obtain ⟨p, hp, e⟩ := List.mem_map.mp z
  obtain ⟨k, hk, rfl⟩ := List.mem_map.mp hp
  have hk := List.mem_range.mp hk
  have e : (Sum.inl (ns.getD k 0) : Key) = Sum.inl (ns.getD i 0) := e
  injection e with e
  rw [List.getD_eq_getElem?_getD, List.getD_eq_getElem?_getD, List.getElem?_eq_getElem hi, List.getElem?_eq_getElem (by omega)] at e
  have := List.pairwise_iff_getElem.mp h k i (by omega) hi hk
  simp only [Option.getD_some] at e
  omega
theorem NB_get {ns : List Int} (h : ns.Pairwise (· < ·)) : ∀ {i k : Nat}, i ≤ ns.length → k < i → ∀ {r : Int}, ns[k]? = some r → valV (NB ns i) (.inl r) = some (nv k)
  | 0, k, _, hk, _, _ => absurd hk (Nat.not_lt_zero _)
  | i + 1, k, hi, hk, r, hr => by
    rw [NB_succ, valV_snoc _ _ _ _ (NB_none h (by omega))]
    by_cases e : k = i
    · subst e
      rw [if_pos (by rw [List.getD_eq_getElem?_getD, hr]; rfl)]
    · rw [if_neg (fun z => ?_), NB_get h (by omega) (by omega) hr]
      injection z with z
      obtain ⟨h1, rfl⟩ := List.getElem?_eq_some_iff.mp hr
      rw [List.getD_eq_getElem?_getD, List.getElem?_eq_getElem (by omega : i < ns.length)] at z
      have := List.pairwise_iff_getElem.mp h k i h1 (by omega) (by omega)
      simp only [Option.getD_some] at z
      omega
def ixI (ns : List Int) (r : Int) : Nat := (ns.findIdx? fun y => decide (y = r)).getD 0
theorem ixI_get {ns : List Int} {r : Int} (h : r ∈ ns) : ns[ixI ns r]? = some r := by
  unfold ixI
  cases e : ns.findIdx? fun y => decide (y = r) with
  | none =>
    have := List.findIdx?_eq_none_iff.mp e r h
    simp at this
  | some i =>
    obtain ⟨hi, h1, _⟩ := List.findIdx?_eq_some_iff_getElem.mp e
    rw [Option.getD_some, List.getElem?_eq_getElem hi, of_decide_eq_true h1]
theorem int_lt {ns : List Int} (h : ns.Pairwise (· < ·)) {i j : Nat} {a b : Int} (ha : ns[i]? = some a) (hb : ns[j]? = some b) : a < b ↔ i < j := by
  obtain ⟨h1, rfl⟩ := List.getElem?_eq_some_iff.mp ha
  obtain ⟨h2, rfl⟩ := List.getElem?_eq_some_iff.mp hb
  have p := List.pairwise_iff_getElem.mp h
  rcases Nat.lt_trichotomy i j with z | z | z
  · exact ⟨fun _ => z, fun _ => p i j h1 h2 z⟩
  · subst z
    exact ⟨fun k => by omega, fun k => by omega⟩
  · have := p j i h2 h1 z
    exact ⟨fun k => by omega, fun k => by omega⟩
def spPicked (K : PySem.W.Frag) : Sp := fun vs H Q _ => ∃ t pl, ∃ (rs : List Int) (ps : List Nat), vs = [.ref t, .ref pl] ∧ SqT K H t (rs.map V.int) ∧ SqL K H pl (ps.map nv) ∧ (∀ p ∈ ps, p < rs.length) ∧ ps.length ≤ 60 ∧
  ∀ p qs H', Same H H' → H' p = some (.tup (qs.map V.int)) → qs.length = ps.length → Cov qs → (∀ (i j p p' : Nat) a b a' b', ps[i]? = some p → ps[j]? = some p' → rs[p]? = some a → rs[p']? = some b → qs[i]? = some a' → qs[j]? = some b' → (a < b ↔ a' < b')) → Q (.ref p) H'
theorem d_picked (T : Txt K mg) : Dn P w K mg base CX0 1 "picked" (spPicked K) := by
  obtain ⟨fd, F⟩ := T.f_picked
  refine dnN T.g_picked F (fun _ _ _ _ _ _ us hl => match us, hl with | [_, _], _ => rfl) sc_picked (fun vs H Q E h => ?_) (fun cdv A outer s H vs Q E hr h => ?_)
  · obtain ⟨t, pl, rs, ps, rfl, _⟩ := h
    rfl
  · obtain ⟨t, pl, rs, ps, rfl, hT, hP, hb, hl, hQ⟩ := h
    refine ⟨_, PSs.nox (pss_cons (ps_setLc (i := 2) (own := [("at", 3)]) (tt := tYes) (by rfl) sc_picked.nd rfl rfl (sw_true rfl rfl rfl (by decide +kernel)) (pi_list (pv 1)) (blkOk_by (own := [("at", 3)]) (N := ["shape", "places", "ranks", "at", "present", "rank", "numbers"]) (sc := defScope s_picked) (by decide +kernel)) (fun _ _ _ _ _ => (pg_name (i := 3) sc_picked.nd rfl (.inl rfl))) (fun _ _ _ _ _ => pts_nil) (fun _ _ _ _ _ => (pe_ix (show IxR _ (rIxT K) from ix_tup) (pv 0) (pv 3) (fun _ _ => rfl))))
      (pss_cons (ps_setDcG (i := 4) (own := [("rank", 5)]) (tt := tYes) NilD.k hr.units0 (by rfl) sc_picked.nd rfl rfl (swD_true rfl rfl rfl (by decide +kernel)) (pi_list (pv 2)) (blkOk_by (own := [("rank", 5)]) (N := ["shape", "places", "ranks", "at", "present", "rank", "numbers"]) (sc := defScope s_picked) (by decide +kernel)) (fun _ _ _ _ _ => (pg_name (i := 5) sc_picked.nd rfl (.inl rfl))) (fun _ _ _ _ _ => pts_nil) (fun _ _ _ _ _ => (pv 5)) (fun _ _ _ _ _ => pe_bl))
      (pss_cons (ps_set (i := 6) sc_picked.nd rfl (.inr rfl) (pe_dcG (own := [("at", 3), ("rank", 5)]) (g := gTup K 2 (gCons (gName 3) (gCons (gName 5) gNil))) (tt := tYes) NilD.k hr.units0 (by rfl) sc_picked.nd (pi_enum (by rfl) T.z_enumerate (pa_cons (pe_callB cr_sortedI (by rfl) T.z_sorted (by decide +kernel) (pa_cons (pe_lock (pe_lc (own := [("rank", 5)]) (tt := tYes) (by rfl) sc_picked.nd (pi_keys (pv 4)) (blkOk_by (own := [("rank", 5)]) (N := ["shape", "places", "ranks", "at", "present", "rank", "numbers"]) (sc := defScope s_picked) (by decide +kernel)) (fun _ _ _ _ _ => (pg_name (i := 5) sc_picked.nd rfl (.inl rfl))) (fun _ _ _ _ _ => pts_nil) (fun _ _ _ _ _ => (pe_callTy call_int1 (by rfl) T.z_int (by decide +kernel) (pa_cons (pv 5) pa_nil))))) pa_nil)) pa_nil)) (blkOk_by (own := [("at", 3), ("rank", 5)]) (N := ["shape", "places", "ranks", "at", "present", "rank", "numbers"]) (sc := defScope s_picked) (by decide +kernel)) (fun _ _ _ _ _ => (pg_tup rfl (pgs_cons (pg_name (i := 3) sc_picked.nd rfl (.inl rfl) (.inr rfl)) (pgs_cons (pg_name (i := 5) sc_picked.nd rfl (.inl rfl) (.inr rfl)) pgs_nil)))) (fun _ _ _ _ _ => pts_nil) (fun _ _ _ _ _ => (pv 5)) (fun _ _ _ _ _ => (pv 3))))
      (pss_one (ps_ret (pe_callTy call_tuple_of (by rfl) T.z_tuple (by decide +kernel) (pa_cons (pe_lc (own := [("rank", 5)]) (tt := tYes) (by rfl) sc_picked.nd (pi_list (pv 2)) (blkOk_by (own := [("rank", 5)]) (N := ["shape", "places", "ranks", "at", "present", "rank", "numbers"]) (sc := defScope s_picked) (by decide +kernel)) (fun _ _ _ _ _ => (pg_name (i := 5) sc_picked.nd rfl (.inl rfl))) (fun _ _ _ _ _ => pts_nil) (fun _ _ _ _ _ => (pe_dget (hu_of hr) (pv 6) (pv 5) (fun _ _ => rfl)))) pa_nil))))))), ?_⟩
    -- the ranks
    refine ⟨_, rfl, pl, rfl, ⟨_, hP⟩, fun R nR => ?_⟩
    have at_ : ∀ p ∈ ps, ∃ r, rs[p]? = some r := fun p hp => ⟨_, List.getElem?_eq_getElem (hb p hp)⟩
    refine lc_it (walk_list (xs := ps.map nv)) (fun i H' => H' = upd H R (.lst (((ps.take i).map fun p => rs.getD p 0).map V.int))) rfl (fun i H' _ e => by rw [e]; exact Same.seq (same_upd nR) hP) ?_ ?_
    · rintro i v H' H'' hi e ⟨rfl, hv⟩
      subst e
      obtain ⟨p, hp, rfl⟩ := getM hv
      obtain ⟨r, hr'⟩ := at_ p (List.mem_of_getElem? hp)
      refine ⟨rfl, tYes_of ⟨_, rfl, _, rfl, _, _, _, _, rfl, rfl, Same.seqT (same_upd nR) hT, atI_nat (mapAt (f := V.int) hr'), _, upd_same, ?_, ?_⟩⟩
      · rw [List.length_map, List.length_map, List.length_take]
        rw [List.length_map] at hi
        exact Nat.lt_of_le_of_lt (Nat.min_le_left _ _) (Nat.lt_of_lt_of_le hi (Nat.le_trans hl (by decide)))
      · rw [upd_upd, tk1 hp, List.map_append, List.map_append]
        show upd H R (.lst (_ ++ [V.int r])) = upd H R (.lst (_ ++ [V.int (rs.getD p 0)]))
        rw [List.getD_eq_getElem?_getD, hr']
        rfl
    · rintro H1 e1
      rw [List.length_map, List.take_length] at e1
      have R1 : H1 R = some (.lst ((ps.map fun p => rs.getD p 0).map V.int)) := e1 ▸ upd_same
      have s1 : Same H H1 := e1 ▸ same_upd nR
      clear e1
      generalize hqs : (ps.map fun p => rs.getD p 0) = ks at R1
      have lks : ks.length = ps.length := by rw [← hqs, List.length_map]
      -- the unlike ones
      refine ⟨_, rfl, R, rfl, ⟨_, SqL.of R1⟩, fun D nD => ?_⟩
      have hRD : R ≠ D := fun z => by rw [← z, R1] at nD; cases nD
      refine dcG_it (walk_list (xs := ks.map V.int)) (fun i H' => ∃ kn, H' = upd H1 D (.dK kn) ∧ Kds kn (ks.take i)) ⟨[], rfl, .nil⟩ (fun i H' _ e => by obtain ⟨kn, e, _⟩ := e; rw [e]; exact SqL.of (by rw [upd_ne hRD]; exact R1)) ?_ ?_
      · rintro i v H' H'' hi ⟨kn, e, kd⟩ ⟨e', hv⟩
        subst e' e
        obtain ⟨r, hr2, rfl⟩ := getM hv
        refine ⟨rfl, tYes_of ?_⟩
        refine ⟨_, rfl, _, DPut.k (k := .inl r) upd_same (Nat.lt_of_le_of_lt kd.len (Nat.lt_of_le_of_lt (by rw [List.length_take]; omega : (ks.take i).length ≤ 100) (by decide))), ?_⟩
        rw [upd_upd]
        refine ⟨_, rfl, ?_⟩
        rw [tk1 hr2]
        exact kd.put r
      · rintro H2 ⟨kn, e2, kd⟩
        rw [List.length_map, List.take_length] at kd
        have D2 : H2 D = some (.dK kn) := e2 ▸ upd_same
        have s12 : Same H1 H2 := e2 ▸ same_upd nD
        clear e2
        obtain ⟨dn, dm, dl⟩ := kd.ints
        have s2 := s1.trans s12
        have R2 := s12 _ _ R1
        have ke := kI_map kd.ky
        refine ⟨D, _, D2, trivial, fun od => ?_⟩
        generalize eH3 : upd H2 D _ = H3
        have D3 : H3 D = some (.frz od (.dK kn)) := eH3 ▸ upd_same
        have R3 : H3 R = H2 R := by rw [← eH3, upd_ne hRD]
        refine ⟨_, rfl, _, _, rfl, .inl ⟨_, D3, fun S nS => ?_⟩⟩
        have nS2 : H2 S = none := by
          rw [← eH3] at nS
          by_cases z : S = D
          · rw [z, upd_same] at nS; cases nS
          · rw [upd_ne z] at nS; exact nS
        have hSD : D ≠ S := fun z => by rw [← z, D2] at nS2; cases nS2
        refine lc_it walk_keys (fun i H' => H' = upd H3 S (.lst (((kI kn).take i).map V.int))) rfl (fun i H' _ e => by rw [e, upd_ne hSD]; exact D3) ?_ ?_
        · rintro i xv H' H'' hi e ⟨e', k, v, hkv, ex⟩
          subst e' ex e
          have hk : (kn.map (·.1))[i]? = some k := mapAt (f := Prod.fst) hkv
          rw [ke] at hk
          obtain ⟨r, hr2, rfl⟩ := getM hk
          refine ⟨rfl, tYes_of ⟨_, rfl, .inl ⟨r, rfl, _, upd_same, ?_, ?_⟩⟩⟩
          · rw [List.length_map, List.length_take]
            exact Nat.lt_of_le_of_lt (Nat.min_le_left _ _) (Nat.lt_of_lt_of_le hi (Nat.le_trans kd.len (Nat.le_trans (by omega : ks.length ≤ 100) (by decide))))
          · rw [upd_upd, tk1 hr2, List.map_append]
            rfl
        · rintro H4 e4
          subst e4
          refine ⟨by rw [upd_ne hSD]; exact D3, ?_⟩
          have e6 : upd (upd H3 S (.lst (((kI kn).take kn.length).map V.int))) D (.dK kn) = upd H2 S (.lst ((kI kn).map V.int)) := by
            rw [← dl, List.take_length, ← eH3]
            funext b
            unfold L2.upd
            by_cases z1 : b = D
            · rw [if_pos z1, if_neg (by rw [z1]; exact hSD), z1, D2]
            · rw [if_neg z1]
              by_cases z2 : b = S
              · rw [if_pos z2, if_pos z2]
              · rw [if_neg z2, if_neg z2, if_neg z1]
          rw [e6]
          have s24 : Same H2 (upd H2 S (.lst ((kI kn).map V.int))) := same_upd nS2
          have S4 : upd H2 S (.lst ((kI kn).map V.int)) S = some (.lst ((kI kn).map V.int)) := upd_same
          generalize upd H2 S (.lst ((kI kn).map V.int)) = H4 at s24 S4 ⊢
          clear e6 D3 R3 eH3
          refine ⟨S, kI kn, rfl, SqL.of S4, fun ns q pm pw nq => ?_⟩
          generalize eH5 : upd H4 q _ = H5
          have s5 : Same H4 H5 := eH5 ▸ same_upd nq
          have q5 : H5 q = some _ := eH5 ▸ upd_same
          have nsd : ns.Pairwise (· < ·) := by
            have nd : ns.Nodup := pm.nodup_iff.mpr dn
            exact (List.pairwise_and_iff.mpr ⟨pw, nd⟩).imp fun h => by have := h.1; have := h.2; omega
          have nsm : ∀ k, k ∈ ns ↔ k ∈ ks := fun k => pm.mem_iff.trans (dm k)
          have s05 := s2.trans (s24.trans s5)
          have R5 := s5 _ _ (s24 _ _ R2)
          have lns : ns.length ≤ 100 := by rw [pm.length_eq, dl]; have := kd.len; omega
          refine ⟨q, _, rfl, SqL.of q5, fun G nG => ?_⟩
          have hqG : q ≠ G := fun z => by rw [← z, q5] at nG; cases nG
          refine dcG_it walk_enum (fun i H' => Same H5 H' ∧ H' G = some (.dK (NB ns i))) ⟨same_upd nG, upd_same⟩ (fun i H' _ e => SqL.of (e.1 _ _ q5)) ?_ ?_
          · rintro i xv H' H'' hi ⟨s6, g6⟩ ⟨T', x, y, rfl, nT, rfl, ex, ey⟩
            cases ex
            obtain ⟨r, hr2, rfl⟩ := getM ey
            have sT : Same H' (upd H' T' (.tup [.int (i : Nat), .int r])) := same_upd nT
            refine ⟨T', _, rfl, SqT.of upd_same, rfl, ?_⟩
            have hni : i < ns.length := by rw [List.length_map] at hi; exact hi
            refine ⟨_, _, rfl, _, _, rfl, rfl, rfl, tYes_of ⟨_, rfl, _, rfl, _, DPut.k (k := .inl r) (sT _ _ g6) ?_, ?_, ?_⟩⟩
            · unfold NB
              rw [List.length_map, List.length_range]
              exact Nat.lt_of_lt_of_le hni (Nat.le_trans lns (by decide))
            · exact same_upN (s6.trans sT) nG
            · have hr3 : r = ns.getD i 0 := by rw [List.getD_eq_getElem?_getD, hr2]; rfl
              rw [upd_same, hr3, putK_new _ (NB_none nsd hni), NB_succ]
          · rintro H6 ⟨s6, g6⟩
            rw [List.length_map] at g6
            have R6 := s6 _ _ R5
            refine ⟨_, rfl, R, rfl, ⟨_, SqL.of R6⟩, fun L nL => ?_⟩
            have hRL : R ≠ L := fun z => by rw [← z, R6] at nL; cases nL
            have hGL : G ≠ L := fun z => by rw [← z, g6] at nL; cases nL
            refine lc_it (walk_list (xs := ks.map V.int)) (fun i H' => H' = upd H6 L (.lst (((ks.take i).map fun r => ((ixI ns r : Nat) : Int)).map V.int))) rfl (fun i H' _ e => by rw [e]; exact SqL.of (by rw [upd_ne hRL]; exact R6)) ?_ ?_
            · rintro i v H' H'' hi e ⟨rfl, hv⟩
              subst e
              obtain ⟨r, hr2, rfl⟩ := getM hv
              have hg := ixI_get ((nsm r).mpr (List.mem_of_getElem? hr2))
              have hgl := (List.getElem?_eq_some_iff.mp hg).1
              refine ⟨rfl, tYes_of ⟨_, rfl, _, rfl, G, nv (ixI ns r), rfl, ?_, _, upd_same, ?_, ?_⟩⟩
              · have := DGet.k (k := .inl r) (show upd H6 L (.lst (((ks.take i).map fun r => ((ixI ns r : Nat) : Int)).map V.int)) G = some (.dK (NB ns ns.length)) by rw [upd_ne hGL]; exact g6)
                rw [NB_get nsd (Nat.le_refl _) hgl hg] at this
                exact this
              · rw [List.length_map, List.length_map, List.length_take]
                rw [List.length_map] at hi
                exact Nat.lt_of_le_of_lt (Nat.min_le_left _ _) (Nat.lt_of_lt_of_le hi (Nat.le_trans (by omega : ks.length ≤ 100) (by decide)))
              · rw [upd_upd, tk1 hr2, List.map_append, List.map_append]
                rfl
            · rintro H7 rfl
              rw [List.length_map, List.take_length]
              have s7 : Same H (upd H6 L (.lst ((ks.map fun r => ((ixI ns r : Nat) : Int)).map V.int))) := (s05.trans s6).trans (same_upd nL)
              refine ⟨L, _, rfl, .inl ⟨SqL.of upd_same, fun t' nt' => ?_⟩⟩
              refine hQ t' (ks.map fun r => ((ixI ns r : Nat) : Int)) _ (s7.trans (same_upd nt')) upd_same (by rw [List.length_map, lks]) ?_ ?_
              · intro a ha
                obtain ⟨r, hr2, rfl⟩ := List.mem_map.mp ha
                refine ⟨Int.natCast_nonneg _, fun k hk => ?_⟩
                have hg := ixI_get ((nsm r).mpr hr2)
                have hgl := (List.getElem?_eq_some_iff.mp hg).1
                obtain ⟨r', hr'⟩ : ∃ r', ns[k]? = some r' := ⟨_, List.getElem?_eq_getElem (by omega)⟩
                have mr := (nsm r').mp (List.mem_of_getElem? hr')
                refine List.mem_map.mpr ⟨r', mr, ?_⟩
                have hg' := ixI_get (List.mem_of_getElem? hr')
                have : ixI ns r' = k := by
                  rcases Nat.lt_trichotomy (ixI ns r') k with z | z | z
                  · have := (int_lt nsd hg' hr').mpr z; omega
                  · exact z
                  · have := (int_lt nsd hr' hg').mpr z; omega
                rw [this]
              · intro i j p p' a b a' b' h1 h2 h3 h4 h5 h6
                have hks : ∀ {i p : Nat} {a : Int}, ps[i]? = some p → rs[p]? = some a → ks[i]? = some a := fun {i p a} h1 h3 => by
                  rw [← hqs]
                  have := mapAt (f := fun p => rs.getD p 0) h1
                  rw [this]
                  show some (rs.getD p 0) = some a
                  rw [List.getD_eq_getElem?_getD, h3]
                  rfl
                have k1 := hks h1 h3
                have k2 := hks h2 h4
                have e5 := mapAt (f := fun r => ((ixI ns r : Nat) : Int)) k1
                have e6 := mapAt (f := fun r => ((ixI ns r : Nat) : Int)) k2
                rw [e5] at h5
                rw [e6] at h6
                cases h5
                cases h6
                have g1 := ixI_get ((nsm a).mpr (List.mem_of_getElem? k1))
                have g2 := ixI_get ((nsm b).mpr (List.mem_of_getElem? k2))
                rw [int_lt nsd g1 g2]
                omega
end
end K23
namespace K23
open PySem PySem.Spec PyProof.Rows L2 He TL EL
/-! values of a shape: the mathematics -/
def Bad (ws : List oV) (ts : List Wn) : Prop := (∃ u v, SE ws ts u v ∧ Rch (SS ws ts) v u) ∨ ∃ t ∈ ts, t.s = .ne ∧ Rch (SS ws ts) t.i t.j ∧ Rch (SS ws ts) t.j t.i
section
variable {ws : List oV} {ts : List Wn}
theorem se_lt (Vv : Wv ws ts) {u v : Nat} (h : SE ws ts u v) : u < ws.length ∧ v < ws.length := by
  obtain ⟨a, b, _⟩ := SE_M0 Vv h
  exact ⟨a, b⟩
theorem se_rch (Vv : Wv ws ts) {u v : Nat} (h : SE ws ts u v) : Rch (SS ws ts) u v := by
  rcases h with h | ⟨a, b, h1, h2, h3⟩
  · exact .one (want_edge h (by simp))
  · exact known_path Vv h1 h2 h3
theorem bad_iff (Vv : Wv ws ts) {ps : List Int} {c : Nat} (hP : Pt ws.length (SS ws ts) ps c) (hall : ∀ v, v < ws.length → 0 ≤ pva ps v) : badP ws ts ps ↔ Bad ws ts := by
  have cls : ∀ u v, u < ws.length → v < ws.length → (pva ps u = pva ps v ↔ Rch (SS ws ts) u v ∧ Rch (SS ws ts) v u) := fun u v hu hv => hP.cls u v (hall u hu) (hall v hv)
  constructor
  · rintro (⟨t, ht, hs, he⟩ | ⟨i, j, v, w, hij, hi, hj, he⟩)
    · obtain ⟨ti, tj⟩ := Vv.tb t ht
      obtain ⟨r1, r2⟩ := (cls _ _ ti tj).mp he
      rcases hs with hs | hs
      · obtain ⟨s, i, j⟩ := t
        have hs : s = .lt := hs
        subst hs
        exact .inl ⟨i, j, .inl ht, r2⟩
      · exact .inr ⟨t, ht, hs, r1, r2⟩
    · have ti := (List.getElem?_eq_some_iff.mp hi).1
      have tj := (List.getElem?_eq_some_iff.mp hj).1
      obtain ⟨r1, r2⟩ := (cls _ _ ti tj).mp he
      by_cases hl : ltV v w
      · exact .inl ⟨i, j, .inr ⟨v, w, hi, hj, hl⟩, r2⟩
      · by_cases hl2 : ltV w v
        · exact .inl ⟨j, i, .inr ⟨w, v, hj, hi, hl2⟩, r1⟩
        · have := ltV_eq (Vv.vl v (List.mem_of_getElem? hi)).low (Vv.vl w (List.mem_of_getElem? hj)).low hl hl2
          subst this
          exact absurd (Vv.un _ _ _ hi hj) hij
  · rintro (⟨u, v, e, r⟩ | ⟨t, ht, hs, r1, r2⟩)
    · obtain ⟨hu, hv⟩ := se_lt Vv e
      rcases e with e | ⟨a, b, h1, h2, h3⟩
      · exact .inl ⟨_, e, .inl rfl, (cls _ _ hu hv).mpr ⟨.one (want_edge e (by simp)), r⟩⟩
      · refine .inr ⟨u, v, a, b, fun z => ?_, h1, h2, (cls _ _ hu hv).mpr ⟨known_path Vv h1 h2 h3, r⟩⟩
        subst z
        rw [h1] at h2
        cases h2
        exact ltV_irrefl _ h3
    · obtain ⟨ti, tj⟩ := Vv.tb t ht
      exact .inl ⟨t, ht, .inr hs, (cls _ _ ti tj).mpr ⟨r1, r2⟩⟩
end
/-! the values found are not long -/
def BW (z : Int × Int) : Prop := z.1.natAbs < 2 ^ 300 ∧ z.2.natAbs < 2 ^ 300
theorem p300 : (2 : Nat) ^ 70 * 1000 < 2 ^ 300 ∧ (2 : Nat) ^ 150 * 1000 < 2 ^ 300 ∧ (1000 : Nat) < 2 ^ 300 := ⟨by decide, by decide, by decide⟩
theorem nrm_bw {t b : Int} (hb : 0 < b) (h1 : t.natAbs < 2 ^ 300) (h2 : b.natAbs < 2 ^ 300) : BW (nrm t b) := by
  obtain ⟨h3, h4⟩ := nrm_abs (t := t) hb
  have h5 := nrm_pos (t := t) hb
  exact ⟨Nat.lt_of_le_of_lt h3 h1, Nat.lt_of_le_of_lt (by omega) h2⟩
theorem vl_bw {z : Int × Int} (h : Vl z) : BW z := ⟨Nat.lt_of_lt_of_le h.top (by decide), Nat.lt_of_lt_of_le h.bot (by decide)⟩
theorem pr140 {a b : Int} (ha : a.natAbs < 2 ^ 70) (hb : b.natAbs < 2 ^ 70) {m : Int} (hm : m.natAbs ≤ 200) : (a * b * m).natAbs ≤ 2 ^ 140 * 200 := by
  rw [Int.natAbs_mul, Int.natAbs_mul]
  have h : a.natAbs * b.natAbs ≤ 2 ^ 70 * 2 ^ 70 := Nat.mul_le_mul (Nat.le_of_lt ha) (Nat.le_of_lt hb)
  exact Nat.mul_le_mul (Nat.le_trans h (by decide)) hm
theorem betF_bw {lo hi : oV} {m k : Nat} (h1 : ∀ l, lo = some l → Vl l) (h2 : ∀ h, hi = some h → Vl h) (hk : k < m) (hm : m ≤ 100) : BW (betF lo hi m k) := by
  have e140 : (2 : Nat) ^ 140 * 200 * 4 < 2 ^ 300 := by decide
  have e70 : (2 : Nat) ^ 70 * 201 < 2 ^ 300 := by decide
  match lo, hi with
  | none, none =>
    have : (100 : Nat) < 2 ^ 300 := by decide
    refine ⟨?_, (by decide : (1 : Int).natAbs < 2 ^ 300)⟩
    show ((k : Nat) : Int).natAbs < _
    omega
  | none, some h =>
    obtain ⟨⟨b, _⟩, c, d⟩ := h2 h rfl
    have e : (((m : Int) - (k : Int)) * h.2).natAbs ≤ 200 * 2 ^ 70 := by
      rw [Int.natAbs_mul]
      exact Nat.mul_le_mul (by omega) (Nat.le_of_lt d)
    refine nrm_bw b ?_ (Nat.lt_of_lt_of_le d (by decide))
    generalize ((m : Int) - (k : Int)) * h.2 = X at *
    omega
  | some l, none =>
    obtain ⟨⟨b, _⟩, c, d⟩ := h1 l rfl
    have e : (((k : Int) + 1) * l.2).natAbs ≤ 200 * 2 ^ 70 := by
      rw [Int.natAbs_mul]
      exact Nat.mul_le_mul (by omega) (Nat.le_of_lt d)
    refine nrm_bw b ?_ (Nat.lt_of_lt_of_le d (by decide))
    generalize ((k : Int) + 1) * l.2 = X at *
    omega
  | some l, some h =>
    obtain ⟨⟨b, _⟩, c, d⟩ := h1 l rfl
    obtain ⟨⟨e, _⟩, f, g⟩ := h2 h rfl
    have hB : 0 < l.2 * h.2 * ((m : Int) + 1) := Int.mul_pos (Int.mul_pos b e) (by omega)
    have b1 := pr140 (m := (m : Int) + 1) c g (by omega)
    have b2 := pr140 (m := (k : Int) + 1) f d (by omega)
    have b3 := pr140 (m := (k : Int) + 1) c g (by omega)
    have b4 := pr140 (m := (m : Int) + 1) d g (by omega)
    refine nrm_bw hB ?_ (by omega)
    rw [Int.sub_mul]
    generalize l.1 * h.2 * ((m : Int) + 1) = X at *
    generalize h.1 * l.2 * ((k : Int) + 1) = Y at *
    generalize l.1 * h.2 * ((k : Int) + 1) = Z at *
    omega
theorem Fill.bw {ks : List oV} (hB : ∀ z, some z ∈ ks → Vl z) (hl : ks.length ≤ 100) {s : Nat} {D : List (Int × Int)} (f : Fill ks s D) : ∀ z ∈ D, BW z := by
  induction f with
  | nil => intro z hz; cases hz
  | @known s k D h f hs hk hgap ih =>
    have hkl := (List.getElem?_eq_some_iff.mp hk).1
    intro z hz
    rcases List.mem_append.mp hz with hz | hz
    · rcases List.mem_append.mp hz with hz | hz
      · exact ih z hz
      · obtain ⟨i, hi, rfl⟩ := List.mem_map.mp hz
        have hi := List.mem_range.mp hi
        exact betF_bw (fun l e => hB l (f.last l e)) (fun h' e => by cases e; exact hB _ (List.mem_of_getElem? hk)) hi (by omega)
    · rw [List.mem_singleton.mp hz]
      exact vl_bw (hB _ (List.mem_of_getElem? hk))
theorem Filled.bw {ks : List oV} (hB : ∀ z, some z ∈ ks → Vl z) (hl : ks.length ≤ 100) {WL : List (Int × Int)} (f : Filled ks WL) : ∀ z ∈ WL, BW z := by
  obtain ⟨s, D, f, hs, hgap, rfl⟩ := f
  intro z hz
  rcases List.mem_append.mp hz with hz | hz
  · exact f.bw hB hl z hz
  · obtain ⟨i, hi, rfl⟩ := List.mem_map.mp hz
    have hi := List.mem_range.mp hi
    exact betF_bw (fun l e => hB l (f.last l e)) (fun h' e => by cases e) hi (by omega)
theorem Met.bw {ws : List (Option (Int × Int))} {ts : List Wn} {ps : List Int} {c : Nat} {kn : List (List Key × V)} (M : Met ws ts ps c kn) (hl : ws.length ≤ 100) {WL : List (Int × Int)} (f : Filled (ksL ws ps c kn) WL) : ∀ u, u < ws.length → BW (fnd WL ps u) := fun u hu => by
  have hc : c ≤ ws.length := by
    have h := all_lt (c := c) (l := ps.map Int.toNat) fun k hk => by
      obtain ⟨v, hv⟩ := M.p.full k hk
      have hvl : v < ps.length := pv_lt (by rw [hv]; exact Int.natCast_nonneg _)
      refine List.mem_map.mpr ⟨_, List.mem_of_getElem? (pv_get hvl), ?_⟩
      rw [hv, Int.toNat_natCast]
    rw [List.length_map, M.p.len] at h
    exact h
  refine f.bw (fun z hz => ?_) (by rw [ksL_len]; omega) _ ((M.sol f).mem u hu)
  obtain ⟨j, hj⟩ := List.getElem?_of_mem hz
  obtain ⟨x, hx, _⟩ := M.of_ks hj
  exact M.v.vl z (List.mem_of_getElem? hx)
/-! the points of a shape -/
structure Pn (rs : List Int) (cs : List Vq) (i : Nat) (pk : List Int) (ws : List oV) : Prop where
  nd : pk.Nodup
  mem : ∀ r, r ∈ pk ↔ r ∈ rs.take i
  len : ws.length = pk.length
  fst : ∀ k, k < i → k < cs.length → pk[k]? = rs[k]? ∧ ∃ v, cs[k]? = some v ∧ ws[k]? = some (some v)
  non : ∀ k, (i ≤ k ∨ cs.length ≤ k) → k < ws.length → ws[k]? = some none
  few : i ≤ cs.length → pk.length = i
  le : pk.length ≤ i
theorem Pn.nil (rs : List Int) (cs : List Vq) : Pn rs cs 0 [] [] := ⟨List.nodup_nil, by simp, rfl, fun k h => absurd h (Nat.not_lt_zero _), fun k _ h => absurd h (Nat.not_lt_zero _), fun _ => rfl, Nat.le_refl _⟩
section
variable {rs : List Int} {cs : List Vq} {i : Nat} {pk : List Int} {ws : List oV} {r : Int}
theorem sh_lt (h : isSh cs.length rs) {k j : Nat} {a b : Int} (hk : k < j) (hj : j < cs.length) (ha : rs[k]? = some a) (hb : rs[j]? = some b) : a < b := by
  induction j generalizing b with
  | zero => omega
  | succ j ih =>
    obtain ⟨c, hc⟩ : ∃ c, rs[j]? = some c := ⟨_, List.getElem?_eq_getElem (by have := (List.getElem?_eq_some_iff.mp hb).1; omega)⟩
    have h1 := h.2.2 j c b hj hc hb
    by_cases e : k = j
    · subst e
      rw [ha] at hc
      cases hc
      exact h1
    · exact Int.lt_trans (ih (by omega) (by omega) hc) h1
/-- a constant -/
theorem Pn.con (P : Pn rs cs i pk ws) (h : isSh cs.length rs) (hs : SrtV cs) {v : Vq} (hi : i < cs.length) (hr : rs[i]? = some r) (hv : cs[i]? = some v) : r ∉ pk ∧ some v ∉ ws ∧ Pn rs cs (i + 1) (pk ++ [r]) (ws ++ [some v]) := by
  have lpk := P.few (Nat.le_of_lt hi)
  have n1 : r ∉ pk := fun z => by
    obtain ⟨k, hk⟩ := List.getElem?_of_mem z
    have hki : k < i := by have := (List.getElem?_eq_some_iff.mp hk).1; omega
    rw [(P.fst k hki (by omega)).1] at hk
    have := sh_lt h hki hi hk hr
    omega
  have n2 : some v ∉ ws := fun z => by
    obtain ⟨k, hk⟩ := List.getElem?_of_mem z
    have hki : k < i := by have := (List.getElem?_eq_some_iff.mp hk).1; have := P.len; omega
    obtain ⟨_, y, hy, hw⟩ := P.fst k hki (by omega)
    rw [hw] at hk
    cases hk
    exact ltV_irrefl _ (srt_lt hs hy hv hki)
  refine ⟨n1, n2, ⟨?_, fun q => ?_, by rw [List.length_append, List.length_append, P.len]; rfl, fun k h1 h2 => ?_, fun k h1 h2 => ?_, fun _ => by rw [List.length_append, lpk]; rfl, by rw [List.length_append, List.length_singleton]; omega⟩⟩
  · exact List.nodup_append.mpr ⟨P.nd, by simp, fun a ha b hb => by rw [List.mem_singleton.mp hb]; exact fun z => n1 (z ▸ ha)⟩
  · rw [tk1 hr, List.mem_append, List.mem_append, P.mem]
  · by_cases e : k = i
    · subst e
      refine ⟨by rw [← lpk, List.getElem?_append_right (Nat.le_refl _), Nat.sub_self, lpk, hr]; rfl, v, hv, ?_⟩
      rw [List.getElem?_append_right (by rw [P.len]; omega), P.len, lpk, Nat.sub_self]
      rfl
    · obtain ⟨g1, y, g2, g3⟩ := P.fst k (by omega) h2
      exact ⟨by rw [List.getElem?_append_left (by omega)]; exact g1, y, g2, by rw [List.getElem?_append_left (by have := P.len; omega)]; exact g3⟩
  · rw [List.length_append, List.length_singleton, P.len] at h2
    omega
/-- a rank that is there -/
theorem Pn.old (P : Pn rs cs i pk ws) (hi : cs.length ≤ i) (hr : rs[i]? = some r) (hm : r ∈ pk) : Pn rs cs (i + 1) pk ws := by
  refine ⟨P.nd, fun q => ?_, P.len, fun k h1 h2 => P.fst k (by omega) h2, fun k h1 h2 => P.non k (.inr (by omega)) h2, fun h => by omega, Nat.le_succ_of_le P.le⟩
  rw [tk1 hr, List.mem_append, List.mem_singleton, P.mem]
  exact ⟨.inl, fun h => h.elim id fun e => by rw [e]; exact (P.mem r).mp hm⟩
/-- a rank that is new -/
theorem Pn.new (P : Pn rs cs i pk ws) (hi : cs.length ≤ i) (hr : rs[i]? = some r) (hm : r ∉ pk) : Pn rs cs (i + 1) (pk ++ [r]) (ws ++ [none]) := by
  have hc : cs.length ≤ pk.length := by
    by_cases e : cs.length = 0
    · omega
    · have h0 := (P.fst (cs.length - 1) (by omega) (by omega)).2
      obtain ⟨v, _, hw⟩ := h0
      have := (List.getElem?_eq_some_iff.mp hw).1
      have := P.len
      omega
  refine ⟨List.nodup_append.mpr ⟨P.nd, by simp, fun a ha b hb => by rw [List.mem_singleton.mp hb]; exact fun z => hm (z ▸ ha)⟩, fun q => by rw [tk1 hr, List.mem_append, List.mem_append, P.mem], by rw [List.length_append, List.length_append, P.len]; rfl, fun k h1 h2 => ?_, fun k h1 h2 => ?_, fun h => by omega, by rw [List.length_append, List.length_singleton]; have := P.le; omega⟩
  · obtain ⟨g1, y, g2, g3⟩ := P.fst k (by omega) h2
    exact ⟨by rw [List.getElem?_append_left (by omega)]; exact g1, y, g2, by rw [List.getElem?_append_left (by have := P.len; omega)]; exact g3⟩
  · by_cases e : k < ws.length
    · rw [List.getElem?_append_left e]
      exact P.non k (by omega) e
    · rw [List.length_append, List.length_singleton] at h2
      rw [show k = ws.length by omega, List.getElem?_append_right (Nat.le_refl _), Nat.sub_self]
      rfl
theorem Pn.at_ (P : Pn rs cs i pk ws) {k : Nat} {v : Vq} (h : ws[k]? = some (some v)) : k < i ∧ k < cs.length ∧ cs[k]? = some v ∧ pk[k]? = rs[k]? := by
  have hl := (List.getElem?_eq_some_iff.mp h).1
  by_cases e : k < i ∧ k < cs.length
  · obtain ⟨g1, y, g2, g3⟩ := P.fst k e.1 e.2
    rw [g3] at h
    cases h
    exact ⟨e.1, e.2, g2, g1⟩
  · have := P.non k (by omega) hl
    rw [this] at h
    cases h
theorem Pn.wv (P : Pn rs cs i pk ws) (hv : ∀ v ∈ cs, Vl v) (hs : SrtV cs) : Wv ws [] := by
  refine ⟨fun v h => ?_, fun t h => (by cases h), fun a b v h1 h2 => ?_⟩
  · obtain ⟨k, hk⟩ := List.getElem?_of_mem h
    exact hv v (List.mem_of_getElem? (P.at_ hk).2.2.1)
  · obtain ⟨_, _, g1, _⟩ := P.at_ h1
    obtain ⟨_, _, g2, _⟩ := P.at_ h2
    rcases Nat.lt_trichotomy a b with z | z | z
    · exact absurd (srt_lt hs g1 g2 z) (ltV_irrefl _)
    · exact z
    · exact absurd (srt_lt hs g2 g1 z) (ltV_irrefl _)
end
/-- the demands: each rank below the next one -/
def tsR (pk : List Int) (k : Nat) : List Wn := (List.range k).map fun r => ⟨.lt, ixI pk (r : Nat), ixI pk ((r : Nat) + 1)⟩
theorem tsR_succ (pk : List Int) (k : Nat) : tsR pk (k + 1) = tsR pk k ++ [⟨.lt, ixI pk (k : Nat), ixI pk ((k : Nat) + 1)⟩] := by
  unfold tsR
  rw [List.range_succ, List.map_append]
  rfl
theorem ixI_lt {pk : List Int} {r : Int} (h : r ∈ pk) : ixI pk r < pk.length := (List.getElem?_eq_some_iff.mp (ixI_get h)).1
theorem ixI_of {pk : List Int} (nd : pk.Nodup) {k : Nat} {r : Int} (h : pk[k]? = some r) : ixI pk r = k := by
  have h2 := ixI_get (List.mem_of_getElem? h)
  exact (List.getElem?_inj (List.getElem?_eq_some_iff.mp h2).1 nd).mp (h2.trans h.symm)
section
variable {rs : List Int} {cs : List Vq} {pk : List Int} {ws : List oV}
/-- all the ranks 0 .. -/
theorem Pn.cov (P : Pn rs cs rs.length pk ws) (h : isSh cs.length rs) {k : Nat} (hk : k < pk.length) : (k : Int) ∈ pk := by
  have mem : ∀ q, q ∈ pk ↔ q ∈ rs := fun q => by rw [P.mem, List.take_length]
  exact (mem _).mpr ((cov_iff P.nd mem).mpr h.2.1 k hk)
theorem Pn.in_ (P : Pn rs cs rs.length pk ws) (h : isSh cs.length rs) {r : Int} (hr : r ∈ pk) : ∃ n : Nat, r = n ∧ n < pk.length := by
  have mem : ∀ q, q ∈ pk ↔ q ∈ rs := fun q => by rw [P.mem, List.take_length]
  obtain ⟨h0, h1⟩ := h.2.1 r ((mem r).mp hr)
  obtain ⟨n, rfl⟩ := Int.eq_ofNat_of_zero_le h0
  refine ⟨n, rfl, ?_⟩
  by_cases e : n < pk.length
  · exact e
  · exfalso
    -- n + 1 unlike ranks in a list of fewer
    have := all_lt (c := n + 1) (l := pk.map Int.toNat) fun k hk => by
      have : (k : Int) ∈ pk := by
        by_cases z : k = n
        · rw [z]; exact hr
        · exact (mem _).mpr (h1 k (by omega))
      exact List.mem_map.mpr ⟨_, this, Int.toNat_natCast k⟩
    rw [List.length_map] at this
    omega
theorem Pn.wv2 (P : Pn rs cs rs.length pk ws) (h : isSh cs.length rs) (hv : ∀ v ∈ cs, Vl v) (hs : SrtV cs) {k : Nat} (hk : k + 1 ≤ pk.length ∨ k = 0) : Wv ws (tsR pk k) := by
  have W := P.wv hv hs
  refine ⟨W.vl, fun t ht => ?_, W.un⟩
  obtain ⟨r, hr, rfl⟩ := List.mem_map.mp ht
  have hr := List.mem_range.mp hr
  have m1 := P.cov h (k := r) (by omega)
  have m2 := P.cov h (k := r + 1) (by omega)
  rw [P.len]
  exact ⟨ixI_lt m1, by have := ixI_lt m2; simpa using this⟩
theorem Pn.known (P : Pn rs cs rs.length pk ws) (h : isSh cs.length rs) (hs : SrtV cs) {u v : Nat} {a b : Vq} (fa : ws[u]? = some (some a)) (fb : ws[v]? = some (some b)) (hlt : ltV a b) : ∃ a b, pk[u]? = some a ∧ pk[v]? = some b ∧ a < b := by
  obtain ⟨u1, u2, u3, u4⟩ := P.at_ fa
  obtain ⟨v1, v2, v3, v4⟩ := P.at_ fb
  have huv : u < v := by
    rcases Nat.lt_trichotomy u v with z | z | z
    · exact z
    · subst z
      rw [u3] at v3
      cases v3
      exact absurd hlt (ltV_irrefl _)
    · have := srt_lt hs v3 u3 z
      unfold ltV at hlt this
      omega
  obtain ⟨x, hx⟩ : ∃ x, rs[u]? = some x := ⟨_, List.getElem?_eq_getElem u1⟩
  obtain ⟨y, hy⟩ : ∃ x, rs[v]? = some x := ⟨_, List.getElem?_eq_getElem v1⟩
  exact ⟨x, y, by rw [u4, hx], by rw [v4, hy], sh_lt h huv v2 hx hy⟩
/-- each edge goes up in rank -/
theorem Pn.up (P : Pn rs cs rs.length pk ws) (h : isSh cs.length rs) (hv : ∀ v ∈ cs, Vl v) (hs : SrtV cs) {k : Nat} (hk : k + 1 ≤ pk.length ∨ k = 0) {u v : Nat} (e : v ∈ SS ws (tsR pk k) u) : ∃ a b, pk[u]? = some a ∧ pk[v]? = some b ∧ a < b := by
  have Vv := P.wv2 h hv hs hk
  rcases List.mem_append.mp (mem_fo.mp e) with e | e
  · obtain ⟨t, ht, hw⟩ := List.mem_flatMap.mp e
    obtain ⟨r, hr, rfl⟩ := List.mem_map.mp ht
    have hr := List.mem_range.mp hr
    have hw : (u, v) ∈ [(ixI pk (r : Nat), ixI pk ((r : Nat) + 1))] := hw
    have hw := List.mem_singleton.mp hw
    cases hw
    have m1 := P.cov h (k := r) (by omega)
    have m2 := P.cov h (k := r + 1) (by omega)
    exact ⟨_, _, ixI_get m1, ixI_get (by simpa using m2), by omega⟩
  · obtain ⟨j, hj⟩ := List.getElem?_of_mem e
    obtain ⟨h1, h2⟩ := List.getElem?_zip_eq_some.mp hj
    rw [List.getElem?_drop, Nat.add_comm] at h2
    obtain ⟨a, ha, ea⟩ := getM h1
    obtain ⟨b, hb, eb⟩ := getM h2
    have ea : ixv ws a = u := ea
    have eb : ixv ws b = v := eb
    have hlt := srt_at (asc_ok Vv) ha hb (by omega)
    have fa := (ixv_get (mem_fxV.mp ((asc_mem _ _).mp (List.mem_of_getElem? ha)))).2
    have fb := (ixv_get (mem_fxV.mp ((asc_mem _ _).mp (List.mem_of_getElem? hb)))).2
    rw [ea] at fa
    rw [eb] at fb
    exact P.known h hs fa fb hlt
theorem Pn.good (P : Pn rs cs rs.length pk ws) (h : isSh cs.length rs) (hv : ∀ v ∈ cs, Vl v) (hs : SrtV cs) {k : Nat} (hk : k + 1 ≤ pk.length ∨ k = 0) : ¬ Bad ws (tsR pk k) := by
  have Vv := P.wv2 h hv hs hk
  have rch : ∀ {u v : Nat}, Rch (SS ws (tsR pk k)) u v → ∀ {a b : Int}, pk[u]? = some a → pk[v]? = some b → a ≤ b := fun {u v} r => by
    induction r with
    | refl => intro a b h1 h2; rw [h1] at h2; cases h2; exact Int.le_refl _
    | step e _ ih =>
      intro a b h1 h2
      obtain ⟨x, y, hx, hy, hxy⟩ := P.up h hv hs hk e
      rw [h1] at hx
      cases hx
      have := ih hy h2
      omega
  have se : ∀ {u v : Nat}, SE ws (tsR pk k) u v → ∃ a b, pk[u]? = some a ∧ pk[v]? = some b ∧ a < b := fun {u v} e => by
    rcases e with e | ⟨a, b, h1, h2, h3⟩
    · exact P.up h hv hs hk (want_edge e (by simp))
    · exact P.known h hs h1 h2 h3
  rintro (⟨u, v, e, r⟩ | ⟨t, ht, hne, _⟩)
  · obtain ⟨a, b, ha, hb, hab⟩ := se e
    have := rch r hb ha
    omega
  · obtain ⟨r, _, rfl⟩ := List.mem_map.mp ht
    cases hne
/-- what the solution tells -/
theorem Pn.sol (P : Pn rs cs rs.length pk ws) (h : isSh cs.length rs) (hv : ∀ v ∈ cs, Vl v) {ps : List Int} {WL : List Vq} (hk : pk.length = 0 ∨ 0 < pk.length) (S : Sol ws (tsR pk (pk.length - 1)) ps WL) :
    (∀ r ∈ rs, Low (fnd WL ps (ixI pk r)).1 (fnd WL ps (ixI pk r)).2) ∧ rk (cs ++ (rs.drop cs.length).map fun r => fnd WL ps (ixI pk r)) = rs := by
  have mem : ∀ q, q ∈ pk ↔ q ∈ rs := fun q => by rw [P.mem, List.take_length]
  have low : ∀ r ∈ rs, Low (fnd WL ps (ixI pk r)).1 (fnd WL ps (ixI pk r)).2 := fun r hr => S.low _ (by rw [P.len]; exact ixI_lt ((mem r).mpr hr))
  -- ascending
  have step : ∀ k : Nat, k + 1 < pk.length → ltV (fnd WL ps (ixI pk (k : Nat))) (fnd WL ps (ixI pk ((k + 1 : Nat) : Int))) := fun k hk => by
    have := S.st ⟨.lt, ixI pk (k : Nat), ixI pk ((k : Nat) + 1)⟩ (List.mem_map.mpr ⟨k, List.mem_range.mpr (by omega), rfl⟩)
    exact of_decide_eq_true this
  have mono : ∀ d k : Nat, k + d + 1 < pk.length → ltV (fnd WL ps (ixI pk (k : Nat))) (fnd WL ps (ixI pk ((k + d + 1 : Nat) : Int))) := fun d => by
    induction d with
    | zero => exact fun k hk => step k hk
    | succ d ih =>
      intro k hk
      have l := fun (j : Nat) (hj : j < pk.length) => (low _ ((mem _).mp (P.cov h hj))).1
      have := ltV_trans (l k (by omega)) (l (k + d + 1) (by omega)) (l (k + d + 2) (by omega)) (ih k (by omega)) (step (k + d + 1) (by omega))
      exact this
  have ord : ∀ a ∈ rs, ∀ b ∈ rs, (ltV (fnd WL ps (ixI pk a)) (fnd WL ps (ixI pk b)) ↔ a < b) := fun a ha b hb => by
    obtain ⟨n, rfl, hn⟩ := P.in_ h ((mem a).mpr ha)
    obtain ⟨m, rfl, hm⟩ := P.in_ h ((mem b).mpr hb)
    have up : ∀ {n m : Nat}, n < m → m < pk.length → ltV (fnd WL ps (ixI pk (n : Nat))) (fnd WL ps (ixI pk (m : Nat))) := fun {n m} h1 h2 => by
      have := mono (m - n - 1) n (by omega)
      rw [show n + (m - n - 1) + 1 = m by omega] at this
      exact this
    rcases Nat.lt_trichotomy n m with z | z | z
    · exact ⟨fun _ => by omega, fun _ => up z hm⟩
    · subst z
      exact ⟨fun k => absurd k (ltV_irrefl _), fun k => by omega⟩
    · have q := up z hn
      refine ⟨fun k => ?_, fun k => by omega⟩
      unfold ltV at k q
      omega
  have hc := h.1
  have at_ : ∀ (i : Nat) (x : Vq) (a : Int), (cs ++ (rs.drop cs.length).map fun r => fnd WL ps (ixI pk r))[i]? = some x → rs[i]? = some a → x = fnd WL ps (ixI pk a) := fun i x a h1 h2 => by
    by_cases e : i < cs.length
    · rw [List.getElem?_append_left e] at h1
      have hi := (List.getElem?_eq_some_iff.mp h2).1
      obtain ⟨g1, y, g2, g3⟩ := P.fst i hi e
      rw [h1] at g2
      cases g2
      rw [ixI_of P.nd (g1.trans h2), S.at_ i x g3]
    · rw [List.getElem?_append_right (by omega)] at h1
      obtain ⟨r, hr, rfl⟩ := getM h1
      rw [List.getElem?_drop, show cs.length + (i - cs.length) = i by omega, h2] at hr
      cases hr
      rfl
  refine ⟨low, rk_of (fun x hx => ?_) ⟨?_, fun i j x y a b h1 h2 h3 h4 => ?_⟩ h.2.1⟩
  · rcases List.mem_append.mp hx with hx | hx
    · exact (hv x hx).low
    · obtain ⟨r, hr, rfl⟩ := List.mem_map.mp hx
      exact low r (List.mem_of_mem_drop hr)
  · rw [List.length_append, List.length_map, List.length_drop]
    omega
  · rw [at_ i x a h1 h3, at_ j y b h2 h4]
    exact ord a (List.mem_of_getElem? h3) b (List.mem_of_getElem? h4)
end
end K23
namespace K23
open PySem PySem.Spec PyProof.Rows L2 He TL EL
section
variable {P : Program} {w : World} {K : PySem.W.Frag} {mg : Str → Option Value} {base : Heap}
/-- a dict with the ranks' numbers -/
theorem NB_snoc (pk : List Int) (r : Int) : NB (pk ++ [r]) (pk ++ [r]).length = NB pk pk.length ++ [(Sum.inl r, nv pk.length)] := by
  rw [List.length_append, List.length_singleton, NB_succ]
  congr 1
  · unfold NB
    refine List.map_congr_left fun k hk => ?_
    have hk := List.mem_range.mp hk
    rw [List.getD_eq_getElem?_getD, List.getD_eq_getElem?_getD, List.getElem?_append_left hk]
  · rw [List.getD_eq_getElem?_getD, List.getElem?_append_right (Nat.le_refl _), Nat.sub_self]
    rfl
theorem NB_val {pk : List Int} (nd : pk.Nodup) (r : Int) : valV (NB pk pk.length) (.inl r) = if r ∈ pk then some (nv (ixI pk r)) else none := by
  have keys : (NB pk pk.length).map (·.1) = pk.map Sum.inl := by
    unfold NB
    rw [List.map_map]
    refine List.ext_getElem? fun i => ?_
    rw [List.getElem?_map, List.getElem?_map]
    by_cases h : i < pk.length
    · rw [List.getElem?_range h, List.getElem?_eq_getElem h]
      show some (Sum.inl (pk.getD i 0)) = some (Sum.inl pk[i])
      rw [List.getD_eq_getElem?_getD, List.getElem?_eq_getElem h]
      rfl
    · rw [List.getElem?_eq_none (by rw [List.length_range]; omega), List.getElem?_eq_none (by omega)]
      rfl
  by_cases h : r ∈ pk
  · rw [if_pos h]
    have hg := ixI_get h
    have hl := ixI_lt h
    refine valV_at (i := ixI pk r) ?_ ?_
    · rw [keys]
      exact List.Pairwise.map _ (fun a b hab z => hab (by injection z)) nd
    · unfold NB
      rw [List.getElem?_map, List.getElem?_range hl]
      show some ((Sum.inl (pk.getD (ixI pk r) 0) : Key), nv (ixI pk r)) = _
      rw [List.getD_eq_getElem?_getD, hg]
      rfl
  · rw [if_neg h]
    refine valV_miss fun z => h ?_
    rw [keys] at z
    obtain ⟨a, ha, e⟩ := List.mem_map.mp z
    injection e with e
    rw [← e]
    exact ha
theorem same_md {S : List Addr} {H H0 H' : Hp} (s : Same H H0) (m : Md S H0 H') (hn : ∀ b ∈ S, H b = none) : Same H H' := fun b o e => m.out b o (s b o e) fun z => by rw [hn b z] at e; cases e
theorem idx_miss {ws : List oV} {z : Int × Int} (h : some z ∉ ws) : idx (ws.map woD) z.1 z.2 = none := by
  rw [idx_wo]
  refine List.findIdx?_eq_none_iff.mpr fun o ho => ?_
  exact decide_eq_false fun e => h (e ▸ ho)
theorem nuOk {n k : Nat} (h : k < n) : numOk n (.int (k : Nat)) = true := by
  show (decide (0 ≤ ((k : Nat) : Int)) && decide (((k : Nat) : Int) < ((n : Nat) : Int))) = true
  rw [decide_eq_true (by omega), decide_eq_true (by omega)]
  rfl
/-- each value is a tuple of its own -/
def TupAll (H : Hp) (us : List V) (cs : List Vq) : Prop := ∀ z ∈ us.zip cs, ∃ q, z.1 = .ref q ∧ H q = some (.tup [.int z.2.1, .int z.2.2])
theorem TupAll.at_ {H : Hp} {us : List V} {cs : List Vq} (h : TupAll H us cs) {i : Nat} {u : V} {v : Vq} (h1 : us[i]? = some u) (h2 : cs[i]? = some v) : ∃ q, u = .ref q ∧ H q = some (.tup [.int v.1, .int v.2]) :=
  h (u, v) (List.mem_of_getElem? (i := i) (List.getElem?_zip_eq_some.mpr ⟨h1, h2⟩))
theorem TupAll.md {S : List Addr} {H H' : Hp} {us : List V} {cs : List Vq} (h : TupAll H us cs) (m : Md S H H') : TupAll H' us cs := fun z hz => by
  obtain ⟨q, e, hq⟩ := h z hz
  exact ⟨q, e, m.rig _ _ hq rfl⟩
theorem TupAll.same {H H' : Hp} {us : List V} {cs : List Vq} (h : TupAll H us cs) (s : Same H H') : TupAll H' us cs := h.md (S := []) (.of s)
/-! values_of -/
def spVals (K : PySem.W.Frag) : Sp := fun vs H Q E => ∃ t c us, ∃ (rs : List Int) (cs : List Vq), vs = [.ref t, .ref c] ∧ SqT K H t (rs.map V.int) ∧ SqL K H c us ∧ DpAll K H us (cs.map valD) ∧ TupAll H us cs ∧ (∀ v ∈ cs, Vl v) ∧ SrtV cs ∧ cs.length ≤ rs.length ∧ rs.length ≤ 50 ∧
  (¬ isSh cs.length rs → ∀ H', Same H H' → E (.ref (ga K "NoShape")) none H') ∧
  (isSh cs.length rs → ∀ p us' fs H', Same H H' → H p = none → H' p = some (.lst us') → DpAll K H' us' (fs.map valD) → fs.length = rs.length - cs.length → (∀ z ∈ fs, Low z.1 z.2 ∧ BW z) → rk (cs ++ fs) = rs → Q (.ref p) H')
theorem d_values_of (hP : PF P "/claim/cut.py") (T : Txt K mg) : Dn P w K mg base (L2.CX P w) 7 "values_of" (spVals K) := by
  obtain ⟨fd, F⟩ := T.f_values_of
  have D_is_shape := d_is_shape (P := P) (w := w) (base := base) T
  have D_fixed := d_fixed (P := P) (w := w) (base := base) T
  have D_point := d_point (P := P) (w := w) (base := base) T
  have D_demand := d_demand (w := w) (base := base) hP T
  have D_solution := d_solution (P := P) (w := w) (base := base) T
  obtain ⟨fdI, FI, okI⟩ := ok_init (P := P) (w := w) (base := base) T
  have D_init := fnD FI okI 1 0 (by simp) rfl (fun _ _ _ _ _ _ _ us its h1 h2 => match us, its, h1, h2 with | [_], [_, _, _], _, _ => ⟨_, rfl, rfl⟩)
  refine dnN T.g_values_of F (fun _ _ _ _ _ _ us hl => match us, hl with | [_, _], _ => rfl) sc_values_of (fun vs H Q E h => ?_) (fun cdv A outer s H vs Q E hr h => ?_)
  · obtain ⟨t, c, us, rs, cs, rfl, _⟩ := h
    rfl
  · obtain ⟨t, c, us, rs, cs, rfl, hT, hC, dC, tC_, vC, sC, hcr, hn, hE, hQ⟩ := h
    refine ⟨_, (pss_cons (ps_if (pt_not (pt_val (cl D_is_shape (hr.mono (by decide)) (pa_cons (pv 0) (pa_cons (pe_callB call_len_seq (by rfl) T.z_len (by decide +kernel) (pa_cons (pv 1) pa_nil)) pa_nil))))) (pss_one (EL.rs (by rfl) (takes_of rfl rfl rfl rfl) T.x_NoShape (by rfl))) pss_nil)
      (pss_cons (ps_set (i := 2) sc_values_of.nd rfl (.inl rfl) (pe_makeE0 T.m_Web D_init (hr.mono (by decide)) T.g_Web px0))
      (pss_cons (ps_set (i := 3) sc_values_of.nd rfl (.inr rfl) pe_dnewK)
      (pss_cons (ps_for (passes_of rfl) rfl (pi_enumT (by rfl) T.z_enumerate (pa_cons (pv 0) pa_nil)) (pg_tup rfl (pgs_cons (pg_name (i := 4) sc_values_of.nd rfl (.inl rfl)) (pgs_cons (pg_name (i := 5) sc_values_of.nd rfl (.inl rfl)) pgs_nil)))
      (pss_one (ps_if (pt_cmpR op_lt (pv 4) (pe_callB call_len_seq (by rfl) T.z_len (by decide +kernel) (pa_cons (pv 1) pa_nil)) (nomark _)) (pss_one (ps_dput (hu_of hr) (pv 3) (pv 5) (pe_methE (pv 2) T.o_Web.cl T.h_Web_fixed D_fixed (hr.mono (by decide)) pxq (pa_cons (pe_ix ix_list (pv 1) (pv 4) (fun _ _ => rfl)) pa_nil)) rfl)) (pss_one (ps_if (pt_cmp (pc_dnotin (hu_of hr) (pv 5) (pv 3))) (pss_one (ps_dput (hu_of hr) (pv 3) (pv 5) (pe_methE0 (pv 2) T.o_Web.cl T.h_Web_point D_point (hr.mono (by decide)) px0) rfl)) pss_nil)))))
      (pss_cons (ps_for (passes_of rfl) rfl (pi_range1 (by rfl) T.z_range (pa_cons (pe_op op_sub (pe_callB call_lenD (by rfl) T.z_len (by decide +kernel) (pa_cons (pv 3) pa_nil)) pe_int) pa_nil)) (pg_name (i := 5) sc_values_of.nd rfl (.inl rfl))
      (pss_one (ps_expr (pe_methE (pv 2) T.o_Web.cl T.h_Web_demand D_demand (hr.mono (by decide)) pxq (pa_cons pe_str (pa_cons (pe_dget (hu_of hr) (pv 3) (pv 5) (fun _ _ => rfl)) (pa_cons (pe_dget (hu_of hr) (pv 3) (pe_op op_add (pv 5) pe_int) (fun _ _ => rfl)) pa_nil)))))))
      (pss_cons (ps_set (i := 6) sc_values_of.nd rfl (.inr rfl) (pe_methE0 (pv 2) T.o_Web.cl T.h_Web_solution D_solution (hr.mono (by decide)) pxq))
      (pss_one (ps_ret (pe_lc (own := [("rank", 5)]) (tt := tYes) (by rfl) sc_values_of.nd (pi_tup (pe_slice sl_tupA (pv 0) (po_some (pe_callB call_len_seq (by rfl) T.z_len (by decide +kernel) (pa_cons (pv 1) pa_nil))) po_none)) (blkOk_by (own := [("rank", 5)]) (N := ["shape", "constants", "web", "points", "at", "rank", "solution"]) (sc := defScope s_values_of) (by decide +kernel)) (fun _ _ _ _ _ => (pg_name (i := 5) sc_values_of.nd rfl (.inl rfl))) (fun _ _ _ _ _ => pts_nil) (fun _ _ _ _ _ => (pe_ix (show IxR _ (rIxL K) from ix_list) (pv 6) (pe_dget (hu_of hr) (pv 3) (pv 5) (fun _ _ => rfl)) (fun _ _ => rfl)))))))))))), ?_⟩
    have big : ∀ {n : Nat}, n ≤ 1000 → n < sizeLine := fun h => Nat.lt_of_le_of_lt h (by decide)
    have lus : us.length = cs.length := dp_len dC
    have pds0 : Pds [] := fun _ z => by cases z
    refine ⟨_, rfl, _, rfl, _, _, rfl, .inl hC, ?_⟩
    rw [lus]
    refine ⟨t, rs, cs.length, rfl, .inr ⟨hT, hcr, by omega, fun b H1 hb s1 => ⟨_, rfl, ?_⟩⟩⟩
    cases b with
    | false => exact iteT (hE (fun z => by have := hb.mpr z; cases this) H1 s1)
    | true =>
      have hs := hb.mp rfl
      have hQ := hQ hs
      clear hE hb
      refine iteF ?_
      -- the web
      refine fun x dx nx ndx hne => ?_
      refine ⟨x, dx, _, _, .non, [], [], [], rfl, upd_same, .inr (T.dw0 _), .inr (T.dw1 _), .inl ⟨rfl, rfl⟩, by simp, by decide, by decide, by decide, fun lw lt kd H2 m2 nw nt nk hnn hx hw ht hk => ⟨rfl, ?_⟩⟩
      have sA : Same H1 (upd (upd H1 dx (.own x)) x (.ins (aWeb K) dx [])) := (same_upd ndx).trans (same_upd (by rw [upd_ne (Ne.symm hne)]; exact nx))
      have s12 : Same H1 H2 := fun b o hb => m2.out _ _ (sA _ _ hb) (by simp; exact ne_of_none hb nx)
      have s2 := s1.trans s12
      have fr : ∀ {b : Addr}, (upd (upd H1 dx (.own x)) x (.ins (aWeb K) dx [])) b = none → H b = none := fun {b} hb => free_md (S := []) (.of (s1.trans sA)) al_nil hb
      have W2 : Wb K H2 x dx lw lt kd [] [] := ⟨hx, ⟨_, hw, .nil⟩, ⟨_, ht, .nil⟩, ⟨_, hk, .nil⟩, pds0, pds0⟩
      have nw0 := fr nw
      have nt0 := fr nt
      have nk0 := fr nk
      refine fun D nD => ?_
      generalize eH3 : upd H2 D _ = H3
      have s3 : Same H2 H3 := eH3 ▸ same_upd nD
      have D3 : H3 D = some _ := eH3 ▸ upd_same
      have nD0 : H D = none := free_md (S := []) (.of s2) al_nil nD
      have hDx : x ≠ D := ne_of_none hx nD
      have hDw : lw ≠ D := ne_of_none hw nD
      have hDt : lt ≠ D := ne_of_none ht nD
      have hDk : kd ≠ D := ne_of_none hk nD
      have W3 := W2.same s3
      have s03 := s2.trans s3
      clear m2 sA nw nt nk hx hw ht hk W2 fr s12 s3 s2 s1 nD
      -- the points
      refine ⟨_, rfl, t, _, rfl, Same.seqT s03 hT, for_it walk_enumT (fun i σ H' => ∃ pk ws o4 o5, σ = [some (.ref t), some (.ref c), some (.ref x), some (.ref D), o4, o5, none] ∧ Same H H' ∧ Wb K H' x dx lw lt kd (ws.map woD) (([] : List Wn).map wnD) ∧ H' D = some (.dK (NB pk pk.length)) ∧ Pn rs cs i pk ws) ⟨[], [], none, none, rfl, s03, W3, D3, .nil _ _⟩ (fun i σ H' _ ⟨pk, ws, o4, o5, _, h, _⟩ => Same.seqT h hT) ?_ ?_⟩
      · clear W3 D3 s03
        rintro i xv σ H4 H5 hi ⟨pk, ws, o4, o5, rfl, s4, W4, D4, Pi⟩ ⟨T', y1, y2, rfl, nT, rfl, ey1, ey2⟩
        cases ey1
        obtain ⟨r, hr2, rfl⟩ := getM ey2
        have hi : i < rs.length := by rw [List.length_map] at hi; exact hi
        have lws := Pi.len
        have lpk := Pi.le
        refine ⟨T', _, rfl, SqT.of upd_same, rfl, _, _, rfl, _, _, rfl, rfl, ?_⟩
        have sT : Same H4 (upd H4 T' (.tup [.int (i : Nat), .int r])) := same_upd nT
        generalize upd H4 T' (.tup [.int (i : Nat), .int r]) = H5 at sT ⊢
        have s5 := s4.trans sT
        have W5 := W4.same sT
        have D5 := sT _ _ D4
        clear W4 D4 s4 sT nT
        have fin : ∀ (H6 : Hp) (n : Nat) (ws' : List oV), n = pk.length → Same H H6 → Wb K H6 x dx lw lt kd (ws'.map woD) (([] : List Wn).map wnD) → H6 D = some (.dK (NB pk pk.length)) → Pn rs cs (i + 1) (pk ++ [r]) ws' → r ∉ pk → DPut H6 D (.int r) (nv n) (upd H6 D (.dK (putK (NB pk pk.length) (.inl r) (nv n)))) ∧ ∃ pk' ws' o4 o5, [some (V.ref t), some (.ref c), some (.ref x), some (.ref D), some (.int (i : Nat)), some (.int r), none] = [some (V.ref t), some (.ref c), some (.ref x), some (.ref D), o4, o5, none] ∧ Same H (upd H6 D (.dK (putK (NB pk pk.length) (.inl r) (nv n)))) ∧ Wb K (upd H6 D (.dK (putK (NB pk pk.length) (.inl r) (nv n)))) x dx lw lt kd (ws'.map woD) (([] : List Wn).map wnD) ∧ upd H6 D (.dK (putK (NB pk pk.length) (.inl r) (nv n))) D = some (.dK (NB pk' pk'.length)) ∧ Pn rs cs (i + 1) pk' ws' := fun H6 n ws' hn s6 W6 D6 P6 hr6 => by
          refine ⟨DPut.k (k := .inl r) D6 ?_, pk ++ [r], ws', _, _, rfl, same_upN s6 nD0, W6.md (Md.upd (S := [D]) D6 rfl (by simp)) (by simp [hDx]) (by simp [hDw]) (by simp [hDt]) (by simp [hDk]), ?_, P6⟩
          · unfold NB
            rw [List.length_map, List.length_range]
            exact big (by omega)
          · have hv := NB_val Pi.nd r
            rw [if_neg hr6] at hv
            rw [upd_same, putK_new _ hv, NB_snoc, hn]
        refine ⟨_, rfl, _, rfl, _, _, rfl, .inl (Same.seq s5 hC), _, _, rfl, rfl, _, rfl, ?_⟩
        rw [lus]
        by_cases hic : i < cs.length
        · refine if_pos_of (decide_eq_true (by omega)) ?_
          obtain ⟨v, hv⟩ : ∃ v, cs[i]? = some v := ⟨_, List.getElem?_eq_getElem hic⟩
          obtain ⟨uv, huv, dv⟩ := dp_at (DpAll.same s5 dC) (mapAt (f := valD) hv)
          obtain ⟨q, rfl, hq⟩ := (tC_.same s5).at_ huv hv
          obtain ⟨g1, g2, P'⟩ := Pi.con hs sC hic hr2 hv
          have vl := vC v (List.mem_of_getElem? hv)
          refine ⟨_, rfl, _, _, _, rfl, W5.hx, webF_no (by decide) (by decide) (by decide), _, rfl, _, rfl, _, _, _, _, rfl, rfl, Same.seq s5 hC, atI_nat huv, ?_⟩
          refine ⟨x, dx, lw, lt, kd, _, _, .ref q, rfl, W5, .inr ⟨q, v.1, v.2, rfl, hq, isVal_of vl.low, (by rw [List.length_map]; omega), Ne.symm hnn, fun j hj => ?_, fun _ H6 m6 W6 => ?_⟩⟩
          · rw [idx_miss g2] at hj
            cases hj
          · rw [List.length_map]
            have s6 : Same H H6 := same_md s5 m6 (by simp [nw0, nk0])
            have D6 := m6.out _ _ D5 (by simp [Ne.symm hDw, Ne.symm hDk])
            obtain ⟨f1, f2⟩ := fin H6 ws.length (ws ++ [some v]) lws s6 (by rw [List.map_append]; exact W6) D6 P' g1
            exact ⟨_, rfl, _, rfl, D, _, rfl, f1, f2⟩
        · refine if_neg_of (decide_eq_false (by omega)) ?_
          refine ⟨_, rfl, _, rfl, D, _, rfl, DGet.k (k := .inl r) D5, _, rfl, ?_⟩
          rw [NB_val Pi.nd r]
          by_cases hm : r ∈ pk
          · rw [if_pos hm]
            exact iteF ⟨pk, ws, _, _, rfl, s5, W5, D5, Pi.old (by omega) hr2 hm⟩
          · rw [if_neg hm]
            refine iteT ?_
            refine ⟨_, rfl, _, _, _, rfl, W5.hx, webF_no (by decide) (by decide) (by decide), ?_⟩
            refine ⟨x, dx, lw, lt, kd, _, _, rfl, W5, (by rw [List.length_map]; omega), Ne.symm hnn, fun H6 m6 W6 => ?_⟩
            rw [List.length_map]
            have s6 : Same H H6 := same_md s5 m6 (by simp [nw0])
            have D6 := m6.out _ _ D5 (by simp [Ne.symm hDw])
            obtain ⟨f1, f2⟩ := fin H6 ws.length (ws ++ [none]) lws s6 (by rw [List.map_append]; exact W6) D6 (Pi.new (by omega) hr2 hm) hm
            exact ⟨_, rfl, _, rfl, D, _, rfl, f1, f2⟩
      · clear W3 D3 s03
        rintro σ H4 ⟨pk, ws, o4, o5, rfl, s4, W4, D4, Pi⟩
        rw [List.length_map] at Pi
        have lws := Pi.len
        have lpk := Pi.le
        -- the demands
        refine ⟨_, rfl, D, _, rfl, D4, _, _, rfl, rfl, _, rfl, ?_⟩
        have lNB : (NB pk pk.length).length = pk.length := by unfold NB; rw [List.length_map, List.length_range]
        rw [lNB]
        have hcov := fun {k : Nat} (hk : k < pk.length) => Pi.cov hs hk
        have hget : ∀ {H' : Hp}, H' D = some (.dK (NB pk pk.length)) → ∀ {r : Int}, r ∈ pk → DGet H' D (.int r) (some (nv (ixI pk r))) := fun {H'} hD {r} hr => by
          have := DGet.k (k := .inl r) hD
          rw [NB_val Pi.nd r, if_pos hr] at this
          exact this
        refine ⟨by omega, by omega, for_range (n := (((pk.length : Nat) : Int) - 1).toNat) (fun k σ H' => (∃ o4 o5, σ = [some (.ref t), some (.ref c), some (.ref x), some (.ref D), o4, o5, none]) ∧ Same H H' ∧ Wb K H' x dx lw lt kd (ws.map woD) ((tsR pk k).map wnD) ∧ H' D = some (.dK (NB pk pk.length))) ⟨⟨_, _, rfl⟩, s4, W4, D4⟩ ?_ ?_⟩
        · clear W4 D4 s4
          rintro k σ H5 hk ⟨⟨o4, o5, rfl⟩, s5, W5, D5⟩
          show gName 5 (V.int (0 + (k : Int))) _ _ _
          rw [Int.zero_add]
          have m1 := hcov (k := k) (by omega)
          have m2 := hcov (k := k + 1) (by omega)
          have m2 : ((k : Nat) : Int) + 1 ∈ pk := by simpa using m2
          have W5' := Pi.wv2 hs vC sC (k := k) (.inl (by omega))
          refine ⟨_, rfl, _, _, _, rfl, W5.hx, webF_no (by decide) (by decide) (by decide), _, rfl, _, rfl, D, _, rfl, hget D5 m1, _, rfl, _, rfl, _, _, rfl, rfl, D, _, rfl, hget D5 m2, ?_⟩
          unfold tNil
          dsimp only
          refine ⟨x, dx, lw, lt, kd, _, _, _, _, _, .str Sg.lt.s, .int (ixI pk (k : Nat) : Nat), .int (ixI pk ((k : Nat) + 1) : Nat), rfl, W5, .str _, .int _, .int _, ?_, Ne.symm hnn, (fun z => (by cases z)), (fun _ z => ?_), (fun _ _ z => ?_), fun _ _ _ H6 m6 W6 => ?_⟩
          · unfold tsR
            rw [List.length_map, List.length_map, List.length_range]
            omega
          · rw [List.length_map, nuOk (by rw [lws]; exact ixI_lt m1)] at z
            cases z
          · rw [List.length_map, nuOk (by rw [lws]; exact ixI_lt m2)] at z
            cases z
          · refine ⟨⟨_, _, rfl⟩, same_md s5 m6 (by simp [nt0]), ?_, m6.out _ _ D5 (by simp [Ne.symm hDt])⟩
            rw [tsR_succ, List.map_append]
            exact W6
        · clear W4 D4 s4
          rintro σ H5 ⟨⟨o4, o5, rfl⟩, s5, W5, D5⟩
          have hm : (((pk.length : Nat) : Int) - 1).toNat = pk.length - 1 := by omega
          rw [hm] at W5
          have hk' : pk.length - 1 + 1 ≤ pk.length ∨ pk.length - 1 = 0 := by omega
          have Vv := Pi.wv2 hs vC sC hk'
          have hgood := Pi.good hs vC sC hk'
          have lts : (tsR pk (pk.length - 1)).length ≤ 100 := by
            unfold tsR
            rw [List.length_map, List.length_range]
            omega
          -- the solution
          refine ⟨_, rfl, _, _, _, rfl, W5.hx, webF_no (by decide) (by decide) (by decide), ?_⟩
          refine ⟨x, dx, lw, lt, kd, ws, tsR pk (pk.length - 1), rfl, W5, Vv, by omega, lts, fun ps c2 hP2 hall => ⟨fun hb => absurd ((bad_iff Vv hP2 hall).mp hb) hgood, fun hg p uf kn WL H6 hkn hfl np s6 p6 dp => ?_⟩⟩
          have Mt : Met ws (tsR pk (pk.length - 1)) ps c2 kn := ⟨Vv, hP2, hall, hg, hkn⟩
          have S := Mt.sol hfl
          have bw := Mt.bw (by omega) hfl
          obtain ⟨low, hrk⟩ := Pi.sol hs vC (by omega) S
          have s06 := s5.trans s6
          have D6 := s6 _ _ D5
          have get2 : ∀ (u : Nat), u < ws.length → (ps.map fun n => WL.getD n.toNat (0, 0))[u]? = some (fnd WL ps u) := fun u hu => by
            rw [List.getElem?_map, List.getElem?_eq_getElem (by rw [hP2.len]; omega)]
            unfold fnd pva
            rw [List.getElem?_eq_getElem (by rw [hP2.len]; omega : u < ps.length)]
            rfl
          have mem : ∀ q, q ∈ pk ↔ q ∈ rs := fun q => by rw [Pi.mem, List.take_length]
          refine ⟨_, rfl, _, rfl, _, _, rfl, .inl (Same.seq s06 hC), _, rfl, ?_⟩
          rw [lus]
          unfold tNoPart
          dsimp only
          refine slA_from (Same.seqT s06 hT) fun sh H7 s7 hsh => ?_
          refine ⟨sh, rfl, ⟨_, hsh⟩, fun L nL => ?_⟩
          have s07 := s06.trans s7
          have p7 := s7 _ _ p6
          have D7 := s7 _ _ D6
          have dp7 := DpAll.same s7 dp
          rw [← List.map_drop] at hsh
          have lm : ((rs.map V.int).drop cs.length).length = (rs.drop cs.length).length := by rw [← List.map_drop, List.length_map]
          refine lc_it (walk_tup (xs := (rs.drop cs.length).map V.int)) (fun i H' => Same H7 H' ∧ ∃ us', H' L = some (.lst us') ∧ DpAll K H' us' ((((rs.drop cs.length).take i).map fun r => fnd WL ps (ixI pk r)).map valD)) ⟨same_upd nL, [], upd_same, .nil⟩ (fun i H' _ e => Same.seqT e.1 hsh) ?_ ?_
          · rintro i xv H' H'' hi ⟨s8, us', h8, d8⟩ ⟨rfl, hv⟩
            obtain ⟨r, hr2, rfl⟩ := getM hv
            have hr3 : r ∈ pk := (mem r).mpr (List.mem_of_mem_drop (List.mem_of_getElem? hr2))
            have hu : ixI pk r < ws.length := by rw [lws]; exact ixI_lt hr3
            obtain ⟨uz, huz, dz⟩ := dp_at dp7 (mapAt (f := valD) (get2 _ hu))
            have lus' := dp_len d8
            refine ⟨rfl, tYes_of ⟨_, rfl, _, rfl, _, rfl, D, _, rfl, hget (s8 _ _ D7) hr3, _, _, _, _, rfl, rfl, SqL.of (s8 _ _ p7), atI_nat huz, _, h8, ?_, same_upN s8 nL, _, upd_same, ?_⟩⟩
            · rw [lus', List.length_map, List.length_take, List.length_drop]
              exact big (by omega)
            · have m1 : Md [L] H'' (upd H'' L (.lst (us' ++ [uz]))) := Md.upd h8 rfl (by simp)
              rw [tk1 hr2, List.map_append, List.map_append]
              exact DpAll.snoc (m1.dp (Pd.valD _).nl (Dp.same s8 dz)) (m1.dpAll (pds_val _).nl d8)
          · rintro H8 ⟨s8, us', h8, d8⟩
            rw [List.length_map, List.take_length] at d8
            have nL0 : H L = none := free_md (S := []) (.of s07) al_nil nL
            refine hQ L us' _ H8 (s07.trans s8) nL0 h8 d8 (by rw [List.length_map, List.length_drop]) (fun z hz => ?_) hrk
            obtain ⟨r, hr2, rfl⟩ := List.mem_map.mp hz
            have hr3 := List.mem_of_mem_drop hr2
            exact ⟨low r hr3, bw _ (by rw [lws]; exact ixI_lt ((mem r).mpr hr3))⟩
end
end K23
namespace K23
open PySem PySem.Spec PyProof.Rows L2 He TL EL
section
variable {P : Program} {w : World} {K : PySem.W.Frag} {mg : Str → Option Value} {base : Heap}
/-! _law_pool, _law_take -/
/-- the law's pool: [digits, state] -/
def Pool (H : Hp) (p : Addr) : Prop := ∃ a b : Int, H p = some (.lst [.int a, .int b]) ∧ 0 ≤ a ∧ 0 ≤ b ∧ b < 2147483647
theorem Pool.same {H H' : Hp} {p : Addr} (s : Same H H') (h : Pool H p) : Pool H' p := by
  obtain ⟨a, b, h1, h2⟩ := h
  exact ⟨a, b, s _ _ h1, h2⟩
theorem Pool.md {S : List Addr} {H H' : Hp} {p : Addr} (h : Pool H p) (m : Md S H H') (n : p ∉ S) : Pool H' p := by
  obtain ⟨a, b, h1, h2⟩ := h
  exact ⟨a, b, m.out _ _ h1 n, h2⟩
theorem Pool.mdB {H H' : Hp} {p : Addr} (h : Pool H p) (b : But p H H') : Md [p] H H' := by
  obtain ⟨a, c, h1, _⟩ := h
  exact b.md h1 rfl
theorem pw18 : ((10 : Int) ^ (18 : Int).toNat) = 1000000000000000000 := by decide +kernel
theorem mul70 {i j : Int} (h1 : i.natAbs < 2 ^ 70) (h2 : j.natAbs < 2 ^ 70) : CMulW i j := wide_mul h1 h2 (by decide) (by decide) (by decide)
def spPool (K : PySem.W.Frag) : Sp := fun vs H Q _ => ∃ (sc : Addr) (ns : List Int) (k : Nat), vs = [.ref sc, .int (k : Nat)] ∧ SqL K H sc (ns.map V.int) ∧ k ≤ 1000 ∧ ns.length ≤ 1000 ∧ ∀ p H', H p = none → Same H H' → Pool H' p → Q (.ref p) H'
theorem d_pool (T : Txt K mg) : Dn P w K mg base CX0 1 "_law_pool" (spPool K) := by
  obtain ⟨fd, F⟩ := T.f__law_pool
  refine dnN T.g__law_pool F (fun _ _ _ _ _ _ us hl => match us, hl with | [_, _], _ => rfl) sc__law_pool (fun vs H Q E h => ?_) (fun cdv A outer s H vs Q E hr h => ?_)
  · obtain ⟨sc, ns, k, rfl, _⟩ := h
    rfl
  · obtain ⟨sc, ns, k, rfl, hS, hk, hn, hQ⟩ := h
    refine ⟨_, PSs.nox (pss_cons (ps_set (i := 2) sc__law_pool.nd rfl (.inl rfl) (pe_ix ix_list (pe_op op_cat (pe_slice sl_list (pv 0) (po_some (pv 1)) (po_some (pe_op op_add (pv 1) pe_int))) (pe_lst (pa_cons pe_int pa_nil))) pe_int (fun _ _ => rfl)))
      (pss_mid (ps_set (i := 3) sc__law_pool.nd rfl (.inl rfl) (pe_ifExp (pt_cmpR op_ge (pv 2) pe_int (nomark _)) (pv 2) (pe_op op_sub (pe_un un_neg pe_int) (pv 2))))
      (pss_cons (ps_set (i := 4) sc__law_pool.nd rfl (.inl rfl) (pe_op op_mod (pe_op op_mulW (pe_callTy call_int1 (by rfl) T.z_int (by decide +kernel) (pa_cons (pe_op op_add (pe_op op_add (pe_op op_add (pe_op op_mod (pv 3) pe_int) (pe_op op_mulW (pe_op op_mulW pe_int (pv 1)) (pv 1))) (pe_op op_mulW pe_int (pv 1))) pe_int) pa_nil)) pe_int) pe_int))
      (pss_one (ps_ret (pe_lst (pa_cons (pe_op op_mul (pv 3) (pe_callTy call_int1 (by rfl) T.z_int (by decide +kernel) (pa_cons (pe_cmpR op_ge (pv 3) (pe_op op_pow pe_int pe_int) (nomark _)) pa_nil))) (pa_cons (pe_op op_mod (pe_op op_mulW (pv 4) (pv 4)) pe_int) pa_nil)))))))), ?_⟩
    have head : ∃ c : Int, atI (cutV (ns.map V.int) (some (k : Int)) (some ((k : Int) + 1)) ++ [.int 0]) 0 = some (.int c) := by
      have hm : ∀ x ∈ cutV (ns.map V.int) (some (k : Int)) (some ((k : Int) + 1)), ∃ c : Int, x = .int c := fun x hx => by
        unfold cutV at hx
        obtain ⟨c, _, e⟩ := List.mem_map.mp (List.mem_of_mem_drop (List.mem_of_mem_take hx))
        exact ⟨c, e.symm⟩
      cases hc : cutV (ns.map V.int) (some (k : Int)) (some ((k : Int) + 1)) with
      | nil => exact ⟨0, rfl⟩
      | cons x r =>
        obtain ⟨c, e⟩ := hm x (by rw [hc]; exact List.mem_cons_self)
        exact ⟨c, by rw [e]; exact atI_nat (j := 0) rfl⟩
    obtain ⟨c, hc⟩ := head
    have hcut := cutV_length (ns.map V.int) (some (k : Int)) (some ((k : Int) + 1))
    rw [List.length_map] at hcut
    have hpw : CPow 10 18 := ⟨by decide, by decide, by decide⟩
    refine ⟨_, rfl, _, rfl, _, rfl, _, rfl, _, _, rfl, rfl, _, rfl, sc, _, rfl, hS, fun l1 n1 => ?_⟩
    generalize eH1 : upd H l1 _ = H1
    have s1 : Same H H1 := eH1 ▸ same_upd n1
    have e1 : H1 l1 = some _ := eH1 ▸ upd_same
    refine ⟨(by show 1 ≤ sizeLine; decide), fun l2 n2 => ?_⟩
    generalize eH2 : upd H1 l2 _ = H2
    have s2 : Same H1 H2 := eH2 ▸ same_upd n2
    have e2 : H2 l2 = some _ := eH2 ▸ upd_same
    refine ⟨l1, l2, _, _, rfl, rfl, s2 _ _ e1, e2, (by rw [List.length_singleton]; exact Nat.le_trans (by omega : _ ≤ 1001) (by decide)), fun l3 n3 => ?_⟩
    generalize eH3 : upd H2 l3 _ = H3
    have s3 : Same H2 H3 := eH3 ▸ same_upd n3
    have e3 : H3 l3 = some _ := eH3 ▸ upd_same
    have s03 := s1.trans (s2.trans s3)
    refine ⟨_, _, _, _, rfl, rfl, SqL.of e3, hc, ?_⟩
    -- the number
    have fin : ∀ n : Int, 0 ≤ n → ∀ m : Int, 0 ≤ m → m < 2147483647 → ∀ p H4, H3 p = none → Same H3 H4 → H4 p = some (.lst [.int (n * (if decide (1000000000000000000 ≤ n) = true then 1 else 0)), .int (m * m % 2147483629)]) → Q (.ref p) H4 := fun n hn m h0 h1 p H4 np s4 p4 => by
      refine hQ p H4 (by
        cases hh : H p with
        | none => rfl
        | some o => rw [s03 _ _ hh] at np; cases np) (s03.trans s4) ⟨_, _, p4, ?_, Int.emod_nonneg _ (by decide), Int.lt_trans (Int.emod_lt_of_pos _ (by decide)) (by decide)⟩
      split <;> omega
    have rest : ∀ n : Int, 0 ≤ n → ∃ b : Int, (n % 2147483629 + 7919 * k * k + 31 * k + 17) * 48271 % 2147483647 = b ∧ 0 ≤ b ∧ b < 2147483647 := fun n _ => ⟨_, rfl, Int.emod_nonneg _ (by decide), Int.emod_lt_of_pos _ (by decide)⟩
    have small : ∀ n : Int, 0 ≤ n % 2147483629 ∧ n % 2147483629 < 2147483629 := fun n => ⟨Int.emod_nonneg _ (by decide), Int.emod_lt_of_pos _ (by decide)⟩
    have k70 : ((k : Nat) : Int).natAbs < 2 ^ 70 := Nat.lt_of_le_of_lt (by omega : ((k : Nat) : Int).natAbs ≤ 1000) (by decide)
    have kk : (7919 * (k : Int) * (k : Int)).natAbs ≤ 7919 * 1000 * 1000 := by
      rw [Int.natAbs_mul, Int.natAbs_mul]
      exact Nat.mul_le_mul (Nat.mul_le_mul (Nat.le_refl _) (by omega)) (by omega)
    have m1 : CMulW 7919 (k : Int) := mul70 (by decide) k70
    have m2 : CMulW (7919 * (k : Int)) (k : Int) := mul70 (Nat.lt_of_le_of_lt (by omega : (7919 * (k : Int)).natAbs ≤ 7919000) (by decide)) k70
    have m3 : CMulW 31 (k : Int) := mul70 (by decide) k70
    have m4 : ∀ n : Int, CMulW (n % 2147483629 + 7919 * k * k + 31 * k + 17) 48271 := fun n => by
      have := small n
      exact mul70 (Nat.lt_of_le_of_lt (by omega : (n % 2147483629 + 7919 * (k : Int) * (k : Int) + 31 * (k : Int) + 17).natAbs ≤ 2147483629 + 7919 * 1000 * 1000 + 31000 + 17) (by decide)) (by decide)
    refine ⟨fun σ' H' => H3 = H' ∧ ∃ n : Int, 0 ≤ n ∧ σ' = [some (.ref sc), some (.int k), some (.int c), some (.int n), none], ?_, ?_⟩
    · refine ⟨_, rfl, _, _, rfl, rfl, _, rfl, ie (fun c1 => ?_) (fun c1 => ?_)⟩
      · exact ⟨_, rfl, rfl, c, of_decide_eq_true c1, rfl⟩
      · have c1 := of_decide_eq_false c1
        exact ⟨_, rfl, _, rfl, _, _, rfl, rfl, rfl, -1 - c, by omega, rfl⟩
    · rintro σ' H' ⟨rfl, n, hn0, rfl⟩
      obtain ⟨b, hb, b0, b1⟩ := rest n hn0
      refine ⟨_, rfl, _, _, rfl, rfl, (by show (0 : Int) < 2147483629; decide), _, rfl, _, _, rfl, rfl, m1, _, rfl, _, _, rfl, rfl, m2, _, _, rfl, rfl, _, rfl, _, _, rfl, rfl, m3, _, _, rfl, rfl, _, _, rfl, rfl, .inl ⟨_, rfl, ?_⟩⟩
      refine ⟨_, _, rfl, rfl, m4 n, _, _, rfl, rfl, (by show (0 : Int) < 2147483647; decide), ?_⟩
      show gName 4 (V.int ((n % 2147483629 + 7919 * k * k + 31 * k + 17) * 48271 % 2147483647)) _ _ _
      rw [hb]
      have mb : CMulW b b := mul70 (Nat.lt_of_lt_of_le (by omega : b.natAbs < 2147483647) (by decide)) (Nat.lt_of_lt_of_le (by omega : b.natAbs < 2147483647) (by decide))
      refine ⟨_, rfl, _, rfl, _, _, rfl, rfl, hpw, _, _, rfl, rfl, .inr ⟨_, rfl, ?_⟩⟩
      refine ⟨_, _, rfl, rfl, (by refine .inr ?_; split <;> exact ⟨by decide, by decide⟩), _, rfl, _, rfl, _, _, rfl, rfl, mb, _, _, rfl, rfl, (by show (0 : Int) < 2147483629; decide), (by show 2 ≤ sizeLine; decide), fun p np => ?_⟩
      generalize eH4 : upd H3 p _ = H4
      have s4 : Same H3 H4 := eH4 ▸ same_upd np
      have p4 : H4 p = some _ := eH4 ▸ upd_same
      rw [pw18] at p4
      exact fin n hn0 b b0 b1 p H4 np s4 p4
def spTake : Sp := fun vs H Q _ => ∃ (p : Addr) (L : Int), vs = [.ref p, .int L] ∧ 0 < L ∧ L ≤ 10000000000000000000 ∧ Pool H p ∧ ∀ (n : Int) (H' : Hp), 0 ≤ n → n < L → Pool H' p → But p H H' → Q (.int n) H'
theorem d_take (T : Txt K mg) : Dn P w K mg base CX0 1 "_law_take" spTake := by
  obtain ⟨fd, F⟩ := T.f__law_take
  refine dnN T.g__law_take F (fun _ _ _ _ _ _ us hl => match us, hl with | [_, _], _ => rfl) sc__law_take (fun vs H Q E h => ?_) (fun cdv A outer s H vs Q E hr h => ?_)
  · obtain ⟨p, L, rfl, _⟩ := h
    rfl
  · obtain ⟨p, L, rfl, hL0, hL1, ⟨a, b, hp, ha, hb0, hb1⟩, hQ⟩ := h
    refine ⟨_, PSs.nox (pss_cons (ps_if (pt_cmpR op_gt (pe_ix ix_list (pv 0) pe_int (fun _ _ => rfl)) pe_int (nomark _)) (pss_cons (ps_set (i := 2) sc__law_take.nd rfl (.inl rfl) (pe_op op_mod (pe_callTy call_int1 (by rfl) T.z_int (by decide +kernel) (pa_cons (pe_ix ix_list (pv 0) pe_int (fun _ _ => rfl)) pa_nil)) (pv 1)))
      (pss_cons (ps_asg (pe_op op_fdivW (pe_ix ix_list (pv 0) pe_int (fun _ _ => rfl)) (pv 1)) (pg_sub (pv 0) pe_int set_list))
      (pss_one (ps_ret (pv 2))))) pss_nil)
      (pss_cons (ps_asg (pe_op op_mod (pe_callTy call_int1 (by rfl) T.z_int (by decide +kernel) (pa_cons (pe_op op_add (pe_op op_mulW (pe_ix ix_list (pv 0) pe_int (fun _ _ => rfl)) pe_int) pe_int) pa_nil)) pe_int) (pg_sub (pv 0) pe_int set_list))
      (pss_one (ps_ret (pe_op op_mod (pe_op op_fdivW (pe_op op_mod (pe_callTy call_int1 (by rfl) T.z_int (by decide +kernel) (pa_cons (pe_op op_mulW (pe_ix ix_list (pv 0) pe_int (fun _ _ => rfl)) (pe_ix ix_list (pv 0) pe_int (fun _ _ => rfl))) pa_nil)) pe_int) pe_int) (pv 1)))))), ?_⟩
    refine ⟨_, rfl, _, _, 0, _, rfl, rfl, SqL.of hp, atI_nat (j := 0) rfl, _, _, rfl, rfl, _, rfl, ie (fun c1 => ?_) (fun c1 => ?_)⟩
    · have hdv : CDivW a L := wide_div hL0 (b := 64) (by omega) (by decide) (by decide)
      refine ⟨_, rfl, _, _, 0, _, rfl, rfl, SqL.of hp, atI_nat (j := 0) rfl, .inl ⟨_, rfl, ?_⟩⟩
      refine ⟨_, rfl, _, _, rfl, rfl, hL0, ?_⟩
      refine ⟨_, rfl, _, _, 0, _, rfl, rfl, SqL.of hp, atI_nat (j := 0) rfl, _, rfl, _, _, rfl, rfl, hdv, _, rfl, p, _, 0, 0, rfl, rfl, hp, rfl, ?_⟩
      refine ⟨_, rfl, ?_⟩
      exact hQ (a % L) _ (Int.emod_nonneg _ (by omega)) (Int.emod_lt_of_pos _ hL0) ⟨a / L, b, upd_same, Int.ediv_nonneg ha (by omega), hb0, hb1⟩ but_upd
    · have hm : CMulW b 48271 := mul70 (Nat.lt_of_lt_of_le (by omega : b.natAbs < 2147483647) (by decide)) (by decide)
      refine ⟨_, rfl, _, _, 1, _, rfl, rfl, SqL.of hp, atI_nat (j := 1) rfl, _, _, rfl, rfl, hm, _, _, rfl, rfl, .inl ⟨_, rfl, ?_⟩⟩
      refine ⟨_, _, rfl, rfl, (by show (0 : Int) < 2147483647; decide), _, rfl, p, _, 1, 1, rfl, rfl, hp, rfl, ?_⟩
      have h0 : 0 ≤ (b * 48271 + 12345) % 2147483647 := Int.emod_nonneg _ (by decide)
      have h1 : (b * 48271 + 12345) % 2147483647 < 2147483647 := Int.emod_lt_of_pos _ (by decide)
      generalize e2 : upd H p _ = H2
      have p2 : H2 p = some (.lst [.int a, .int ((b * 48271 + 12345) % 2147483647)]) := e2 ▸ upd_same
      have b2 : But p H H2 := e2 ▸ but_upd
      clear e2
      generalize (b * 48271 + 12345) % 2147483647 = r at p2 h0 h1
      have hm2 : CMulW r r := mul70 (Nat.lt_of_lt_of_le (by omega : r.natAbs < 2147483647) (by decide)) (Nat.lt_of_lt_of_le (by omega : r.natAbs < 2147483647) (by decide))
      refine ⟨_, rfl, _, _, 1, _, rfl, rfl, SqL.of p2, atI_nat (j := 1) rfl, _, rfl, _, _, 1, _, rfl, rfl, SqL.of p2, atI_nat (j := 1) rfl, _, _, rfl, rfl, hm2, .inl ⟨_, rfl, ?_⟩⟩
      refine ⟨_, _, rfl, rfl, (by show (0 : Int) < 2147483629; decide), _, _, rfl, rfl, (⟨by decide, by decide⟩ : CDivW _ 64), _, rfl, _, _, rfl, rfl, hL0, ?_⟩
      exact hQ _ H2 (Int.emod_nonneg _ (by omega)) (Int.emod_lt_of_pos _ hL0) ⟨a, r, p2, ha, h0, h1⟩ b2
/-! _law_lowest -/
def spLowest : Sp := fun vs H Q _ => ∃ t b : Int, vs = [.int t, .int b] ∧ 0 < b ∧ b.natAbs < 2 ^ 4000 ∧ ∀ p H', H p = none → Same H H' → H' p = some (.tup [.int (nrm t b).1, .int (nrm t b).2]) → Q (.ref p) H'
theorem d_lowest (T : Txt K mg) : Dn P w K mg base CX0 1 "_law_lowest" spLowest := by
  obtain ⟨fd, F⟩ := T.f__law_lowest
  refine dnN T.g__law_lowest F (fun _ _ _ _ _ _ us hl => match us, hl with | [_, _], _ => rfl) sc__law_lowest (fun vs H Q E h => ?_) (fun cdv A outer s H vs Q E hr h => ?_)
  · obtain ⟨t, b, rfl, _⟩ := h
    rfl
  · obtain ⟨t, b, rfl, hb, hz, hQ⟩ := h
    refine ⟨_, PSs.nox (pss_cons (ps_set (i := 2) sc__law_lowest.nd rfl (.inl rfl) (pe_callB call_abs (by rfl) T.z_abs (by decide +kernel) (pa_cons (pv 0) pa_nil)))
      (pss_cons (ps_set (i := 3) sc__law_lowest.nd rfl (.inl rfl) (pv 1))
      (pss_cons (ps_while PassesOwn.never (pt_cmpR op_gt (pv 3) pe_int (nomark _))
      (pss_one (ps_par (i := 2) (j := 3) (by rfl) sc__law_lowest.nd rfl rfl (by decide) rfl rfl (pa_cons (pv 3) (pa_cons (pe_op op_mod (pv 2) (pv 3)) pa_nil)) (by rfl))))
      (pss_one (ps_ret (pe_tup (pa_cons (pe_op op_fdivW (pv 0) (pv 2)) (pa_cons (pe_op op_fdivW (pv 1) (pv 2)) pa_nil)))))))), ?_⟩
    refine ⟨_, rfl, _, rfl, _, rfl, ?_⟩
    refine ⟨fun m σ H' => ∃ x y : Nat, m = y ∧ σ = [some (.int t), some (.int b), some (.int x), some (.int y)] ∧ H' = H ∧ Nat.gcd x y = Nat.gcd t.natAbs b.natAbs, ⟨b.natAbs, t.natAbs, b.natAbs, rfl, ?_, rfl, rfl⟩, ?_⟩
    · show [some (V.int t), some (V.int b), some (V.int (if t < 0 then -t else t)), some (V.int b)] = _
      rw [show (if t < 0 then -t else t) = ((t.natAbs : Nat) : Int) by split <;> omega]
      have e : b = ((b.natAbs : Nat) : Int) := by omega
      rw [← e]
    · rintro m σ H' ⟨x, y, em, rfl, rfl, hg⟩
      subst m
      refine ⟨_, rfl, _, _, rfl, rfl, _, rfl, ie (fun h1 => ?_) (fun h1 => ?_)⟩
      · have hy : 0 < y := by
          have := of_decide_eq_true h1
          omega
        refine ⟨_, fun σ' H2 hN => hN, _, rfl, _, rfl, _, rfl, _, _, rfl, rfl, (by show (0 : Int) < (y : Int); omega), _, _, rfl, ?_⟩
        exact ⟨x % y, Nat.mod_lt _ hy, y, x % y, rfl, rfl, rfl, by rw [← hg, Nat.gcd_comm x y, Nat.gcd_rec y x, Nat.gcd_comm]⟩
      · have hy : y = 0 := by
          have := of_decide_eq_false h1
          omega
        subst hy
        rw [Nat.gcd_zero_right] at hg
        have e : (x : Int) = cd t b := by unfold cd; rw [← hg]
        have hp := cd_pos (a := t) (b := b) (by omega)
        have hle : cd t b ≤ b := Int.le_of_dvd (by omega) (cd_dvd_r _ _)
        have hW : ∀ i : Int, CDivW i (x : Int) := fun i => by rw [e]; exact wide_div hp (b := 4000) (Nat.lt_of_le_of_lt (by omega) hz) (by decide) (by decide)
        refine ⟨_, rfl, _, rfl, _, _, rfl, rfl, hW _, _, rfl, _, rfl, _, _, rfl, rfl, hW _, (by show 2 ≤ sizeLine; decide), newO fun p H' hp' hs h' => ?_⟩
        refine hQ p H' hp' hs ?_
        rw [h']
        unfold nrm
        rw [if_neg (by omega), e]
/-! _law_less, _law_unlike, _law_ranks -/
def BWv (z : Int × Int) : Prop := Low z.1 z.2 ∧ z.1.natAbs < 2 ^ 300 ∧ z.2.natAbs < 2 ^ 300
theorem bwv_mul {x y : Int × Int} (h1 : BWv x) (h2 : BWv y) : CMulW x.1 y.2 := wide_mul h1.2.1 h2.2.2 (by decide) (by decide) (by decide)
def spLLess (K : PySem.W.Frag) : Sp := fun vs H Q _ => ∃ v1 v2 x y, vs = [v1, v2] ∧ Dp K H v1 (valD x) ∧ Dp K H v2 (valD y) ∧ CMulW x.1 y.2 ∧ CMulW y.1 x.2 ∧ Q (.bl (decide (ltV x y))) H
theorem d_lless (T : Txt K mg) : Dn P w K mg base CX0 1 "_law_less" (spLLess K) := by
  obtain ⟨fd, F⟩ := T.f__law_less
  refine dnN T.g__law_less F (fun _ _ _ _ _ _ us hl => match us, hl with | [_, _], _ => rfl) sc__law_less (fun vs H Q E h => ?_) (fun cdv A outer s H vs Q E hr h => ?_)
  · obtain ⟨v1, v2, x, y, rfl, _⟩ := h
    rfl
  · obtain ⟨v1, v2, x, y, rfl, d1, d2, m1, m2, hq⟩ := h
    obtain ⟨p, rfl, h1⟩ := dp_val d1
    obtain ⟨q, rfl, h2⟩ := dp_val d2
    refine ⟨_, PSs.nox (pss_one (ps_ret (pe_cmpR op_lt (pe_op op_mulW (pe_ix ix_tup (pv 0) pe_int (fun _ _ => rfl)) (pe_ix ix_tup (pv 1) pe_int (fun _ _ => rfl))) (pe_op op_mulW (pe_ix ix_tup (pv 1) pe_int (fun _ _ => rfl)) (pe_ix ix_tup (pv 0) pe_int (fun _ _ => rfl))) (nomark _)))), ?_⟩
    exact ⟨_, rfl, _, _, 0, _, rfl, rfl, h1, atI_nat (j := 0) rfl, _, rfl, _, _, 1, _, rfl, rfl, h2, atI_nat (j := 1) rfl, _, _, rfl, rfl, m1,
      _, rfl, _, _, 0, _, rfl, rfl, h2, atI_nat (j := 0) rfl, _, rfl, _, _, 1, _, rfl, rfl, h1, atI_nat (j := 1) rfl, _, _, rfl, rfl, m2, _, _, rfl, rfl, hq⟩
def spUnl (K : PySem.W.Frag) : Sp := fun args H Q _ => ∃ (a : Addr) (vs : List V) (xs : List (Int × Int)), args = [.ref a] ∧ SqL K H a vs ∧ DpAll K H vs (xs.map valD) ∧ (∀ x ∈ xs, BWv x) ∧ xs.length ≤ 1000 ∧
  ∀ p us H', H p = none → Same H H' → H' p = some (.lst us) → DpAll K H' us ((asc xs).map valD) → (∀ z ∈ us.zip (asc xs), z ∈ vs.zip xs) → Q (.ref p) H'
theorem d_unlike (T : Txt K mg) : Dn P w K mg base CX0 2 "_law_unlike" (spUnl K) := by
  obtain ⟨fd, F⟩ := T.f__law_unlike
  have D__law_less := d_lless (P := P) (w := w) (base := base) T
  refine dnN T.g__law_unlike F (fun _ _ _ _ _ _ us hl => match us, hl with | [_], _ => rfl) sc__law_unlike (fun vs H Q E h => ?_) (fun cdv A outer s H vs Q E hr h => ?_)
  · obtain ⟨a, vs, xs, rfl, _⟩ := h
    rfl
  · obtain ⟨a, vs, xs, rfl, hS, hA, hV, hl, hQ⟩ := h
    refine ⟨_, PSs.nox (pss_cons (ps_set (i := 1) sc__law_unlike.nd rfl (.inl rfl) (pe_lst pa_nil))
      (pss_cons (ps_for PassesOwn.never rfl (pi_list (pv 0)) (pg_name (i := 2) sc__law_unlike.nd rfl (.inl rfl))
      (pss_cons (ps_set (i := 3) sc__law_unlike.nd rfl (.inl rfl) pe_int)
      (pss_mid (ps_while PassesOwn.never (PW.pt (pw_and (pt_cmpR op_lt (pv 3) (pe_callB call_len_seq (by rfl) T.z_len (by decide +kernel) (pa_cons (pv 1) pa_nil)) (nomark _)) (pw_and1 (pt_val (cl D__law_less (hr.mono (by decide)) (pa_cons (pe_ix ix_list (pv 1) (pv 3) (fun _ _ => rfl)) (pa_cons (pv 2) pa_nil)))))))
      (pss_one (ps_set (i := 3) sc__law_unlike.nd rfl (.inl rfl) (pe_op op_add (pv 3) pe_int))))
      (pss_one (ps_if (pt_cmpR (op_neD hr.units) (pe_slice sl_list (pv 1) (po_some (pv 3)) (po_some (pe_op op_add (pv 3) pe_int))) (pe_lst (pa_cons (pv 2) pa_nil)) (nomark _)) (pss_one (ps_expr (pe_bm PySem.F.plainAttrs_list PySem.F.slot_list_insert PySem.F.type_list_insert mt_insert (pv 1) (pa_cons (pv 3) (pa_cons (pv 2) pa_nil))))) pss_nil)))))
      (pss_one (ps_ret (pv 1))))), ?_⟩
    refine ⟨(by show 0 ≤ sizeLine; decide), fun p np => ?_⟩
    generalize eH1 : upd H p _ = H1
    have s1 : Same H H1 := eH1 ▸ same_upd np
    have e1 : H1 p = some _ := eH1 ▸ upd_same
    have sm : ∀ {H' : Hp}, Md [p] H1 H' → Same H H' := fun {H'} m => (Md.newM (S := []) m (Md.of s1) np).same
    have lv : vs.length = xs.length := by rw [DpAll.length hA, List.length_map]
    refine ⟨_, rfl, a, rfl, ⟨_, s1.seq hS⟩, for_list (K := K) (a := a) (xs := vs) (fun i σ H' => (∃ o1 o2, σ = [some (.ref a), some (.ref p), o1, o2]) ∧ ∃ us, H' p = some (.lst us) ∧ DpAll K H' us ((asc (xs.take i)).map valD) ∧ Md [p] H1 H' ∧ ∀ z ∈ us.zip (asc (xs.take i)), z ∈ vs.zip xs) ⟨⟨none, none, rfl⟩, [], e1, .nil, .refl _ _, by simp [asc]⟩ (fun i σ H' _ h => ?_) ?_ ?_⟩
    · obtain ⟨_, us, _, _, m, _⟩ := h
      exact (sm m).seq hS
    · rintro i v σ H' hg ⟨⟨o1, o2, rfl⟩, us, eu, au, m, hu⟩
      obtain ⟨d, hd, hdp⟩ := DpAll.get hA hg
      obtain ⟨x, hx, rfl⟩ := getM hd
      have hdp' := m.dp (Pd.valD x).nl (Dp.same s1 hdp)
      have vx := hV x (List.mem_of_getElem? hx)
      have hA1 : asc (xs.take (i + 1)) = insV x (asc (xs.take i)) := by rw [tk1 hx, asc_snoc]
      have hLm : ∀ y ∈ asc (xs.take i), BWv y := fun y hy => hV y (List.mem_of_mem_take ((asc_mem _ _).mp hy))
      have hLl : (asc (xs.take i)).length ≤ 1000 := Nat.le_trans (asc_len _) (by rw [List.length_take]; omega)
      have hLs : SrtV (asc (xs.take i)) := asc_srt fun y hy => (hV y (List.mem_of_mem_take hy)).1
      generalize hL : asc (xs.take i) = L at au hA1 hu hLm hLl hLs
      have lu : us.length = L.length := by rw [DpAll.length au, List.length_map]
      have at_ : ∀ {k : Nat} {y : Int × Int}, L[k]? = some y → ∃ u, us[k]? = some u ∧ Dp K H' u (valD y) := fun {k y} hk => dp_at au (mapAt (f := valD) hk)
      refine ⟨fun σ' H2 => H' = H2 ∧ ∃ k : Nat, σ' = [some (.ref a), some (.ref p), some v, some (.int (k : Nat))] ∧ k ≤ L.length ∧ (∀ j y, j < k → L[j]? = some y → ltV y x) ∧ (∀ y, L[k]? = some y → ¬ ltV y x), ?_, ?_⟩
      · refine ⟨fun mm σ' H2 => H' = H2 ∧ ∃ k : Nat, mm = L.length - k ∧ k ≤ L.length ∧ σ' = [some (.ref a), some (.ref p), some v, some (.int (k : Nat))] ∧ ∀ j y, j < k → L[j]? = some y → ltV y x, ⟨L.length, rfl, 0, rfl, Nat.zero_le _, rfl, fun j y hj => absurd hj (Nat.not_lt_zero _)⟩, ?_⟩
        rintro mm σ' H2 ⟨rfl, k, rfl, hk, rfl, hlo⟩
        refine ⟨_, rfl, _, rfl, _, _, rfl, .inl (SqL.of eu), _, _, rfl, rfl, _, rfl, ?_⟩
        by_cases hkl : k < L.length
        · refine if_pos_of (decide_eq_true (by omega)) ?_
          obtain ⟨y, hy⟩ : ∃ y, L[k]? = some y := ⟨_, List.getElem?_eq_getElem hkl⟩
          obtain ⟨uk, huk, dk⟩ := at_ hy
          have vy := hLm y (List.mem_of_getElem? hy)
          refine ⟨_, rfl, _, rfl, _, _, _, _, rfl, rfl, SqL.of eu, atI_nat huk, _, rfl, uk, v, y, x, rfl, dk, hdp', bwv_mul vy vx, bwv_mul vx vy, _, rfl, ie (fun c2 => ?_) (fun c2 => ?_)⟩
          · have c2 := of_decide_eq_true c2
            refine ⟨_, fun σ' H2 hN => hN, _, rfl, _, _, rfl, rfl, ?_⟩
            refine ⟨L.length - (k + 1), by omega, rfl, k + 1, rfl, hkl, rfl, fun j z hj hz => ?_⟩
            by_cases hjk : j = k
            · rw [hjk, hy] at hz
              cases hz
              exact c2
            · exact hlo j z (by omega) hz
          · have c2 := of_decide_eq_false c2
            exact ⟨rfl, k, rfl, hk, hlo, fun z hz => by rw [hy] at hz; cases hz; exact c2⟩
        · refine if_neg_of (decide_eq_false (by omega)) ?_
          exact ⟨rfl, k, rfl, hk, hlo, fun z hz => absurd (List.getElem?_eq_some_iff.mp hz).1 hkl⟩
      · rintro σ' H2 ⟨rfl, k, rfl, hk, h1, h2⟩
        have hI := insV_at hk h1 h2
        have hcut : cutV us (some (k : Int)) (some ((k : Int) + 1)) = (us.drop k).take 1 := by
          unfold cutV
          have hk' : min k us.length = k := Nat.min_eq_left (by rw [lu]; exact hk)
          rw [show ((k : Int) + 1) = ((k + 1 : Nat) : Int) by omega, HT.sIx_nat, HT.sIx_nat, hk']
          by_cases e : k + 1 ≤ us.length
          · rw [show min (k + 1) us.length = k + 1 from Nat.min_eq_left e, show k + 1 - k = 1 by omega]
          · rw [List.drop_of_length_le (by omega), List.take_nil, List.take_nil]
        refine ⟨_, rfl, _, rfl, _, rfl, _, rfl, _, _, rfl, rfl, _, rfl, p, _, rfl, SqL.of eu, fun l1 n1 => ?_⟩
        rw [hcut]
        generalize eH3 : upd H' l1 _ = H3
        have s3 : Same H' H3 := eH3 ▸ same_upd n1
        have e3 : H3 l1 = some _ := eH3 ▸ upd_same
        refine ⟨_, rfl, (by show 1 ≤ sizeLine; decide), fun l2 n2 => ?_⟩
        generalize eH4 : upd H3 l2 _ = H4
        have s4 : Same H3 H4 := eH4 ▸ same_upd n2
        have e4 : H4 l2 = some _ := eH4 ▸ upd_same
        have s34 := s3.trans s4
        have dcut : DpAll K H4 ((us.drop k).take 1) (((L.drop k).take 1).map valD) := by
          rw [List.map_take, List.map_drop]
          exact (dp_td 1 (dp_td k (DpAll.same s34 au)).2).1
        refine ⟨.list (((L.drop k).take 1).map valD), .list [valD x], .lst (SqL.of (s4 _ _ e3)) dcut, .lst (SqL.of e4) (.cons (Dp.same s34 hdp') .nil), Pds.shaped (pds_val _), Pds.shaped (pds_val [x]), _, rfl, ?_⟩
        have eu4 := s34 _ _ eu
        have m4 : Md [p] H1 H4 := m.trans (.of s34)
        have heq : PyData.eqv (.list (((L.drop k).take 1).map valD)) (.list [valD x]) = decide (L[k]? = some x) := by
          cases hy : L[k]? with
          | none =>
            rw [List.drop_of_length_le (List.getElem?_eq_none_iff.mp hy)]
            rfl
          | some y =>
            have hd := List.drop_eq_getElem_cons (List.getElem?_eq_some_iff.mp hy).1
            rw [(List.getElem?_eq_some_iff.mp hy).2] at hd
            rw [hd]
            show (PyData.eqv (valD y) (valD x) && true) = _
            rw [Bool.and_true, eqv_valD]
            exact decide_eq_decide.mpr ⟨fun z => by rw [z], Option.some.inj⟩
        rw [heq]
        by_cases hyx : L[k]? = some x
        · refine if_neg_of (by rw [decide_eq_true hyx]; rfl) ?_
          refine ⟨⟨_, _, rfl⟩, us, eu4, ?_, m4, ?_⟩
          · rw [hA1, hI, if_pos hyx]
            exact DpAll.same s34 au
          · rw [hA1, hI, if_pos hyx]
            exact hu
        · refine if_pos_of (by rw [decide_eq_false hyx]; rfl) ?_
          refine ⟨_, rfl, .inl ⟨rfl, _, SqL.of eu4⟩, _, rfl, _, rfl, p, us, _, _, rfl, rfl, eu4, (by rw [lu]; exact Nat.lt_of_le_of_lt hLl (by decide)), by omega, by omega, ?_⟩
          have mu : Md [p] H4 (upd H4 p (.lst (us.take ((k : Nat) : Int).toNat ++ [v] ++ us.drop ((k : Nat) : Int).toNat))) := Md.upd eu4 rfl (by simp)
          refine ⟨⟨_, _, rfl⟩, _, upd_same, ?_, m4.trans mu, fun z hz => ?_⟩
          · rw [hA1, hI, if_neg hyx]
            exact mu.dpAll (pds_val _).nl (insV_list (DpAll.same s34 au) (Dp.same s34 hdp'))
          · rw [hA1, hI, if_neg hyx] at hz
            rcases ins_zip lu hz with hz | hz
            · rw [hz]
              exact List.mem_of_getElem? (List.getElem?_zip_eq_some.mpr ⟨hg, hx⟩)
            · exact hu z hz
    · rintro σ H' ⟨⟨o1, o2, rfl⟩, us, eu, au, m, hu⟩
      rw [lv, List.take_length] at au hu
      exact ⟨_, rfl, hQ p us H' np (sm m) eu au hu⟩
def spRanks (K : PySem.W.Frag) : Sp := fun args H Q _ => ∃ (a : Addr) (vs : List V) (xs : List (Int × Int)), args = [.ref a] ∧ SqL K H a vs ∧ DpAll K H vs (xs.map valD) ∧ (∀ x ∈ xs, BWv x) ∧ xs.length ≤ 1000 ∧ ∀ p H', Same H H' → H' p = some (.tup ((rk xs).map V.int)) → Q (.ref p) H'
theorem d_ranks (T : Txt K mg) : Dn P w K mg base CX0 3 "_law_ranks" (spRanks K) := by
  obtain ⟨fd, F⟩ := T.f__law_ranks
  have D__law_unlike := d_unlike (P := P) (w := w) (base := base) T
  refine dnN T.g__law_ranks F (fun _ _ _ _ _ _ us hl => match us, hl with | [_], _ => rfl) sc__law_ranks (fun vs H Q E h => ?_) (fun cdv A outer s H vs Q E hr h => ?_)
  · obtain ⟨a, vs, xs, rfl, _⟩ := h
    rfl
  · obtain ⟨a, vs, xs, rfl, hS, hA, hV, hl, hQ⟩ := h
    refine ⟨_, PSs.nox (pss_cons (ps_set (i := 1) sc__law_ranks.nd rfl (.inr rfl) (cl D__law_unlike (hr.mono (by decide)) (pa_cons (pv 0) pa_nil)))
      (pss_one (ps_ret (pe_callTy call_tuple_of (by rfl) T.z_tuple (by decide +kernel) (pa_cons (pe_lc (own := [("_law_one", 2)]) (tt := tYes) (by rfl) sc__law_ranks.nd (pi_list (pv 0)) (blkOk_by (own := [("_law_one", 2)]) (N := ["_law_values", "_law_unlike_here", "_law_one"]) (sc := defScope s__law_ranks) (by decide +kernel)) (fun _ _ _ _ _ => (pg_name (i := 2) sc__law_ranks.nd rfl (.inl rfl))) (fun _ _ _ _ _ => pts_nil) (fun _ _ _ _ _ => (show PE _ _ (tBM K "list" (rIndexD K) (tVar 1) (tCons (tVar 2) tNil)) from pe_bm PySem.F.plainAttrs_list PySem.F.slot_list_index PySem.F.type_list_index (show MtR _ "list.index" (rIndexD K) from mt_indexD (u65 hr)) (pv 1) (pa_cons (pv 2) pa_nil)))) pa_nil))))), ?_⟩
    have lv : vs.length = xs.length := dp_len hA
    refine ⟨_, rfl, a, vs, xs, rfl, hS, hA, hV, hl, fun p us H1 np s1 p1 d1 _ => ?_⟩
    have hS1 := Same.seq s1 hS
    have hA1 := DpAll.same s1 hA
    refine ⟨_, rfl, a, rfl, ⟨_, hS1⟩, fun R nR => ?_⟩
    have hRp : p ≠ R := fun z => by rw [← z, p1] at nR; cases nR
    refine lc_it (walk_list (xs := vs)) (fun i H' => H' = upd H1 R (.lst (((rk xs).take i).map V.int))) rfl (fun i H' _ e => by rw [e]; exact Same.seq (same_upd nR) hS1) ?_ ?_
    · rintro i v H' H'' hi e ⟨rfl, hv⟩
      subst e
      obtain ⟨d, hd, hdp⟩ := DpAll.get hA1 hv
      obtain ⟨x, hx', rfl⟩ := getM hd
      have m := List.mem_of_getElem? hx'
      obtain ⟨g1, g2⟩ := ixA_get m
      have sR : Same H1 (upd H1 R (.lst (((rk xs).take i).map V.int))) := same_upd nR
      refine ⟨rfl, tYes_of ⟨_, rfl, .inl ⟨rfl, _, SqL.of (sR _ _ p1)⟩, _, rfl, p, v, valD x, (asc xs).map valD, ixA xs x, valD x, rfl, rfl, .lst (SqL.of (sR _ _ p1)) (DpAll.same sR d1), Dp.same sR hdp, Pds.shaped (pds_val _), (Pd.valD x).shaped, mapAt g1, by rw [eqv_valD]; exact decide_eq_true rfl, fun k z' hk hz' => ?_, _, upd_same, ?_, ?_⟩⟩
      · obtain ⟨y, hy, rfl⟩ := getM hz'
        rw [eqv_valD]
        exact decide_eq_false (g2 k hk y hy)
      · rw [List.length_map, List.length_take]
        exact Nat.lt_of_le_of_lt (Nat.min_le_left _ _) (Nat.lt_of_lt_of_le hi (Nat.le_trans (by omega : vs.length ≤ 1000) (by decide)))
      · rw [upd_upd, tk1 (rk_at hx'), List.map_append]
        rfl
    · rintro H5 rfl
      have s5 : Same H (upd H1 R (.lst (((rk xs).take vs.length).map V.int))) := s1.trans (same_upd nR)
      rw [lv, ← rk_len xs, List.take_length] at s5 ⊢
      refine ⟨R, _, rfl, .inl ⟨SqL.of upd_same, fun t nt => ?_⟩⟩
      exact hQ t _ (s5.trans (same_upd nt)) upd_same

end
end K23
namespace K23
open PySem PySem.Spec PyProof.Rows L2 He TL EL
section
variable {P : Program} {w : World} {K : PySem.W.Frag} {mg : Str → Option Value} {base : Heap}
/-! _law_number -/
def spNumber : Sp := fun vs H Q _ => ∃ p : Addr, vs = [.ref p] ∧ Pool H p ∧ ∀ q (x : Int × Int) H', H q = none → Md [p] H H' → Pool H' p → H' q = some (.tup [.int x.1, .int x.2]) → Vl x → Q (.ref q) H'
theorem nrm_vl {t b : Int} (hb : 0 < b) (h1 : t.natAbs < 2 ^ 70) (h2 : b.natAbs < 2 ^ 70) : Vl (nrm t b) := by
  obtain ⟨h3, h4⟩ := nrm_abs (t := t) hb
  have h5 := nrm_pos (t := t) hb
  exact ⟨nrm_low (by omega), Nat.lt_of_le_of_lt h3 h1, Nat.lt_of_le_of_lt (by omega) h2⟩
theorem d_number (T : Txt K mg) : Dn P w K mg base CX0 2 "_law_number" spNumber := by
  obtain ⟨fd, F⟩ := T.f__law_number
  have D__law_take := d_take (P := P) (w := w) (base := base) T
  have D__law_lowest := d_lowest (P := P) (w := w) (base := base) T
  refine dnN T.g__law_number F (fun _ _ _ _ _ _ us hl => match us, hl with | [_], _ => rfl) sc__law_number (fun vs H Q E h => ?_) (fun cdv A outer s H vs Q E hr h => ?_)
  · obtain ⟨p, rfl, _⟩ := h
    rfl
  · obtain ⟨p, rfl, hp, hQ⟩ := h
    refine ⟨_, PSs.nox (pss_cons (ps_set (i := 1) sc__law_number.nd rfl (.inl rfl) (cl D__law_take (hr.mono (by decide)) (pa_cons (pv 0) (pa_cons pe_int pa_nil))))
      (pss_cons (ps_if (pt_cmpR op_eq (pv 1) pe_int (nomark _)) (pss_cons (ps_set (i := 2) sc__law_number.nd rfl (.inl rfl) (pe_op op_sub (cl D__law_take (hr.mono (by decide)) (pa_cons (pv 0) (pa_cons (pe_op op_add (pe_op op_mulW pe_int (pe_op op_pow pe_int pe_int)) pe_int) pa_nil))) (pe_op op_pow pe_int pe_int)))
      (pss_one (ps_ret (cl D__law_lowest (hr.mono (by decide)) (pa_cons (pv 2) (pa_cons (pe_op op_add pe_int (cl D__law_take (hr.mono (by decide)) (pa_cons (pv 0) (pa_cons (pe_op op_pow pe_int pe_int) pa_nil)))) pa_nil)))))) pss_nil)
      (pss_one (ps_ret (cl D__law_lowest (hr.mono (by decide)) (pa_cons (pe_op op_sub (cl D__law_take (hr.mono (by decide)) (pa_cons (pv 0) (pa_cons pe_int pa_nil))) pe_int) (pa_cons (pe_op op_add pe_int (cl D__law_take (hr.mono (by decide)) (pa_cons (pv 0) (pa_cons (pe_op op_add pe_int (pv 1)) pa_nil)))) pa_nil))))))), ?_⟩
    have hpw : CPow 10 18 := ⟨by decide, by decide, by decide⟩
    have al : ∀ {H' : Hp} {q : Addr}, Md [p] H H' → Pool H' p → H' q = none → H q = none := fun {H' q} m hp nq => by
      obtain ⟨a, b, hp, _⟩ := hp
      exact free_md m (al1 hp) nq
    have fin : ∀ (t b : Int) (H' : Hp), 0 < b → t.natAbs < 2 ^ 70 → b.natAbs < 2 ^ 70 → Md [p] H H' → Pool H' p → spLowest [.int t, .int b] H' Q fun _ _ _ => True := fun t b H' hb h1 h2 m hp' => ⟨t, b, rfl, hb, Nat.lt_of_lt_of_le h2 (Nat.pow_le_pow_right (by decide) (by decide)), fun q H2 nq s2 e2 => hQ q (nrm t b) H2 (al m hp' nq) (m.trans (.of s2)) (hp'.same s2) e2 (nrm_vl hb h1 h2)⟩
    refine ⟨_, rfl, p, 4, rfl, by decide, by decide, hp, fun n H1 n0 n1 p1 b1 => ?_⟩
    have m1 := hp.mdB b1
    refine ⟨_, rfl, rfl, _, rfl, ?_⟩
    by_cases c1 : n = 3
    · refine if_pos_of (by rw [c1]; rfl) ?_
      have hm : CMulW 2 (10 ^ (18 : Int).toNat) := mul70 (by decide) (by decide +kernel)
      refine ⟨_, rfl, _, _, rfl, rfl, hpw, _, _, rfl, rfl, hm, _, _, rfl, rfl, p, _, rfl, by rw [pw18]; decide, by rw [pw18]; decide, p1, fun t H2 t0 t1 p2 b2 => ?_⟩
      have m2 := m1.trans (p1.mdB b2)
      rw [pw18] at t1
      refine ⟨_, _, rfl, rfl, hpw, _, _, rfl, rfl, _, rfl, ?_⟩
      rw [pw18]
      refine ⟨_, rfl, _, _, rfl, rfl, hpw, p, _, rfl, by rw [pw18]; decide, by rw [pw18]; decide, p2, fun b H3 b0 b1 p3 b3 => ?_⟩
      have m3 := m2.trans (p2.mdB b3)
      rw [pw18] at b1
      refine ⟨_, _, rfl, rfl, ?_⟩
      exact fin (t - 1000000000000000000) (1 + b) H3 (by omega) (Nat.lt_of_le_of_lt (by omega : (t - 1000000000000000000).natAbs ≤ 1000000000000000000) (by decide)) (Nat.lt_of_le_of_lt (by omega : (1 + b).natAbs ≤ 1000000000000000000) (by decide)) m3 p3
    · refine if_neg_of (decide_eq_false fun z => c1 (V.int.inj z)) ?_
      refine ⟨_, rfl, p, 13, rfl, by decide, by decide, p1, fun t H2 t0 t1 p2 b2 => ?_⟩
      have m2 := m1.trans (p1.mdB b2)
      refine ⟨_, _, rfl, rfl, _, rfl, _, rfl, _, _, rfl, rfl, p, 1 + n, rfl, by omega, by omega, p2, fun b H3 b0 b1 p3 b3 => ?_⟩
      have m3 := m2.trans (p2.mdB b3)
      refine ⟨_, _, rfl, rfl, ?_⟩
      exact fin (t - 6) (1 + b) H3 (by omega) (Nat.lt_of_le_of_lt (by omega : (t - 6).natAbs ≤ 13) (by decide)) (Nat.lt_of_le_of_lt (by omega : (1 + b).natAbs ≤ 13) (by decide)) m3 p3

/-! _law_is_shape -/
theorem nd_sub : ∀ (l m : List Int), l.Nodup → (∀ x ∈ l, x ∈ m) → l.length ≤ m.length := by
  intro l
  induction l with
  | nil => intro m _ _; exact Nat.zero_le _
  | cons x l ih =>
    intro m hn hs
    obtain ⟨h1, h2⟩ := List.nodup_cons.mp hn
    have hx := hs x (by simp)
    have := ih (m.erase x) h2 fun y hy => (List.mem_erase_of_ne (show y ≠ x from fun z => h1 (z ▸ hy))).mpr (hs y (by simp [hy]))
    rw [List.length_erase_of_mem hx] at this
    have := List.length_pos_of_mem hx
    simp only [List.length_cons]
    omega
def spLSh (K : PySem.W.Frag) : Sp := fun vs H Q _ => ∃ a rs c, vs = [.ref a, nv c] ∧ SqT K H a (rs.map V.int) ∧ c ≤ rs.length ∧ rs.length ≤ 60 ∧ ∀ (b : Bool) H', (b = true ↔ isSh c rs) → Same H H' → Q (.bl b) H'
theorem d_lsh (T : Txt K mg) : Dn P w K mg base CX0 1 "_law_is_shape" (spLSh K) := by
  obtain ⟨fd, F⟩ := T.f__law_is_shape
  refine dnN T.g__law_is_shape F (fun _ _ _ _ _ _ us hl => match us, hl with | [_, _], _ => rfl) sc__law_is_shape (fun vs H Q E h => ?_) (fun cdv A outer s H vs Q E hr h => ?_)
  · obtain ⟨a, rs, c, rfl, _⟩ := h
    rfl
  · obtain ⟨a, rs, c, rfl, hT, hc, hl, hQ⟩ := h
    refine ⟨_, PSs.nox (pss_cons (ps_for PassesOwn.never rfl (pi_range1 (by rfl) T.z_range (pa_cons (pe_lenSetT rfl (by rfl) T.z_len (by rfl) T.z_set (pv 0)) pa_nil)) (pg_name (i := 2) sc__law_is_shape.nd rfl (.inl rfl))
      (pss_one (ps_if (pt_cmpR op_notIn_seq (pv 2) (pv 0) (by rfl)) (pss_one (ps_ret pe_bl)) pss_nil)))
      (pss_one (ps_ret (pe_cmpR (op_eqD hr.units) (pe_lc (own := [("_law_at", 3)]) (by rfl) sc__law_is_shape.nd (pi_range1 (by rfl) T.z_range (pa_cons (pe_op op_sub (pv 1) pe_int) pa_nil)) (blkOk_by (own := [("_law_at", 3)]) (N := ["_law_ranks_here", "_law_many", "_law_rank", "_law_at"]) (sc := defScope s__law_is_shape) (by decide +kernel)) (fun _ _ _ _ _ => (pg_name (i := 3) sc__law_is_shape.nd rfl (.inl rfl))) (fun _ _ _ _ _ => pts_one (pt_cmpR op_ge (pe_ix (show IxR _ (rIxT K) from ix_tup) (pv 0) (pv 3) (fun _ _ => rfl)) (pe_ix (show IxR _ (rIxT K) from ix_tup) (pv 0) (pe_op op_add (pv 3) pe_int) (fun _ _ => rfl)) (nomark _))) (fun _ _ _ _ _ => (pv 3))) (pe_lst pa_nil) (nomark _))))), ?_⟩
    refine ⟨_, rfl, a, rs, rfl, hT, by omega, fun ds nd dm => ?_⟩
    have hcov : Cov rs ↔ ∀ k : Nat, k < ds.length → (k : Int) ∈ rs := (cov_iff nd dm).symm
    have ld := nd_sub ds rs nd fun x hx => (dm x).mp hx
    have e0 : ((ds.length : Nat) : Int).toNat = ds.length := Int.toNat_natCast _
    refine Exists.intro ((ds.length : Nat) : Int) ⟨rfl, by omega, by omega, for_range (n := ((ds.length : Nat) : Int).toNat) (fun i σ H' => (∃ o o', σ = [some (.ref a), some (nv c), o, o']) ∧ H' = H ∧ ∀ k : Nat, k < i → (k : Int) ∈ rs) ⟨⟨_, _, rfl⟩, rfl, fun k h => absurd h (Nat.not_lt_zero _)⟩ ?_ ?_⟩
    · rintro k σ H' hk ⟨⟨o1, o2, rfl⟩, rfl, hks⟩
      have hk : k < ds.length := by omega
      show gName 2 (V.int (0 + (k : Int))) _ _ _
      rw [Int.zero_add]
      have hin : inV (.int (k : Int)) (rs.map V.int) = decide ((k : Int) ∈ rs) := by
        unfold inV
        rw [List.any_map, Bool.eq_iff_iff, List.any_eq_true, decide_eq_true_eq]
        exact ⟨fun ⟨x, hx, e⟩ => by
          have e : decide (x = (k : Int)) = true := e
          rw [← of_decide_eq_true e]
          exact hx, fun h => ⟨_, h, (by show decide (_ = _) = true; exact decide_eq_true rfl)⟩⟩
      refine ⟨_, rfl, _, rfl, a, _, rfl, .inr hT, rfl, by rw [List.all_map]; exact List.all_eq_true.mpr fun x _ => rfl, _, rfl, ?_⟩
      rw [hin]
      by_cases hm : (k : Int) ∈ rs
      · refine if_neg_of (by rw [decide_eq_true hm]; rfl) ?_
        exact ⟨⟨_, _, rfl⟩, rfl, fun j hj => by
          by_cases z : j = k
          · rw [z]; exact hm
          · exact hks j (by omega)⟩
      · refine if_pos_of (by rw [decide_eq_false hm]; rfl) ?_
        exact hQ false H' ⟨fun z => (by cases z), fun z => absurd (hcov.mp z.2.1 k hk) hm⟩ (.refl _)
    · rintro σ H' ⟨⟨o1, o2, rfl⟩, rfl, hks⟩
      have hC : Cov rs := hcov.mpr (by rw [e0] at hks; exact hks)
      refine ⟨_, rfl, _, _, rfl, rfl, (c : Int) - 1, rfl, by omega, by omega, fun L3 nL3 => ?_⟩
      have asat : ∀ i : Nat, (i : Int) < (c : Int) - 1 → ∃ x y, rs[i]? = some x ∧ rs[i + 1]? = some y := fun i hi => ⟨_, _, List.getElem?_eq_getElem (by omega), List.getElem?_eq_getElem (by omega)⟩
      refine lc_it walk_range (fun i H1 => Same H' H1 ∧ ∃ ls : List Int, H1 L3 = some (.lst (ls.map V.int)) ∧ ls.length ≤ i ∧ (ls = [] ↔ ∀ (k : Nat) x y, k < i → rs[k]? = some x → rs[k + 1]? = some y → x < y)) ⟨same_upd nL3, [], upd_same, Nat.le_refl _, fun _ k x y h => absurd h (Nat.not_lt_zero _), fun _ => rfl⟩ (fun _ _ _ _ => trivial) ?_ ?_
      · rintro i v H1 H2 hi ⟨s4, ls, h1, h2, h3⟩ ⟨rfl, rfl⟩
        have hi' : (i : Int) < (c : Int) - 1 := by omega
        obtain ⟨x, y, hx, hy⟩ := asat i hi'
        show gName 3 (V.int (0 + (i : Int))) _ _ _
        rw [Int.zero_add]
        have hT4 := Same.seqT s4 hT
        refine ⟨rfl, ⟨_, rfl, _, rfl, _, _, _, _, rfl, rfl, hT4, atI_nat (mapAt (f := V.int) hx), _, rfl, _, rfl, _, _, rfl, rfl, a, _, _, _, rfl, rfl, hT4, (show atI (rs.map V.int) ((i : Int) + 1) = some (.int y) by rw [show ((i : Int) + 1) = ((i + 1 : Nat) : Int) by omega]; exact atI_nat (mapAt (f := V.int) hy)), _, _, rfl, rfl, _, rfl, ?_⟩⟩
        by_cases hxy : y ≤ x
        · refine if_pos_of (decide_eq_true hxy) ?_
          refine ⟨_, rfl, _, h1, ?_, same_upN s4 nL3, ls ++ [(i : Int)], ?_, ?_, ?_⟩
          · rw [List.length_map]
            exact Nat.lt_of_le_of_lt (by omega : ls.length ≤ 100) (by decide)
          · rw [upd_same, List.map_append]
            rfl
          · rw [List.length_append, List.length_singleton]
            omega
          · refine ⟨fun z => by simp at z, fun z => ?_⟩
            have := z i x y (by omega) hx hy
            omega
        · refine if_neg_of (decide_eq_false hxy) ?_
          refine ⟨s4, ls, h1, by omega, h3.trans ⟨fun z k x' y' hk hx' hy' => ?_, fun z k x' y' hk => z k x' y' (by omega)⟩⟩
          by_cases e : k = i
          · subst e
            rw [hx] at hx'
            rw [hy] at hy'
            cases hx'
            cases hy'
            omega
          · exact z k x' y' (by omega) hx' hy'
      · rintro H1 ⟨s4, ls, h1, h2, h3⟩
        refine ⟨(by show 0 ≤ sizeLine; decide), fun q nq => ?_⟩
        generalize eH2 : upd H1 q _ = H2
        have s2 : Same H1 H2 := eH2 ▸ same_upd nq
        have e2 : H2 q = some _ := eH2 ▸ upd_same
        have dl : DpAll K H2 (ls.map V.int) (ls.map PyData.int) := by
          clear h1 h2 h3
          induction ls with
          | nil => exact .nil
          | cons x l ih => exact .cons (.int _) ih
        refine ⟨.list (ls.map PyData.int), .list [], .lst (SqL.of (s2 _ _ h1)) dl, .lst (SqL.of e2) .nil, ?_, rfl, ?_⟩
        · refine Pds.shaped fun d hd => ?_
          obtain ⟨x, _, rfl⟩ := List.mem_map.mp hd
          exact ⟨rfl, rfl, by show 0 ≤ 16; decide⟩
        · refine hQ _ H2 ?_ (s4.trans s2)
          have e : PyData.eqv (.list (ls.map PyData.int)) (.list []) = true ↔ ls = [] := by
            cases ls with
            | nil => exact ⟨fun _ => rfl, fun _ => rfl⟩
            | cons x l => exact ⟨fun z => (by cases z), fun z => (by cases z)⟩
          rw [e, h3]
          exact ⟨fun z => ⟨hc, hC, fun i a' b' hi ha hb => z i a' b' (by omega) ha hb⟩, fun z k x y hk hx hy => z.2.2 k x y (by omega) hx hy⟩
end
end K23
namespace K23
open PySem PySem.Spec PyProof.Rows L2 He TL EL
section
variable {P : Program} {w : World} {K : PySem.W.Frag} {mg : Str → Option Value} {base : Heap}
/-! _law_refused -/
structure ShIn (K : PySem.W.Frag) (H : Hp) (t c : Addr) (us : List V) (rs : List Int) (cs : List Vq) : Prop where
  t : SqT K H t (rs.map V.int)
  c : SqL K H c us
  d : DpAll K H us (cs.map valD)
  tp : TupAll H us cs
  vl : ∀ v ∈ cs, Vl v
  srt : SrtV cs
  le : cs.length ≤ rs.length
  len : rs.length ≤ 50
theorem ShIn.same {H H' : Hp} {t c : Addr} {us : List V} {rs : List Int} {cs : List Vq} (h : ShIn K H t c us rs cs) (s : Same H H') : ShIn K H' t c us rs cs :=
  ⟨Same.seqT s h.t, Same.seq s h.c, DpAll.same s h.d, h.tp.same s, h.vl, h.srt, h.le, h.len⟩
def spRefused (K : PySem.W.Frag) : Sp := fun vs H Q _ => ∃ t c us, ∃ (rs : List Int) (cs : List Vq), vs = [.ref t, .ref c] ∧ ShIn K H t c us rs cs ∧ ¬ isSh cs.length rs ∧ ∀ H', Same H H' → Q (.bl true) H'
theorem d_refused (hP : PF P "/claim/cut.py") (T : Txt K mg) : Dn P w K mg base CX0 8 "_law_refused" (spRefused K) := by
  obtain ⟨fd, F⟩ := T.f__law_refused
  have D_values_of := d_values_of (w := w) (base := base) hP T
  refine dnN T.g__law_refused F (fun _ _ _ _ _ _ us hl => match us, hl with | [_, _], _ => rfl) sc__law_refused (fun vs H Q E h => ?_) (fun cdv A outer s H vs Q E hr h => ?_)
  · obtain ⟨t, c, us, rs, cs, rfl, _⟩ := h
    rfl
  · obtain ⟨t, c, us, rs, cs, rfl, S, hn, hQ⟩ := h
    refine ⟨_, PSs.nox (pss_cons (ps_try_as (i := 2) (by rfl) (by rfl) sc__law_refused.nd rfl (by rfl) ⟨rfl, by decide, .inl T.x_AskError.g⟩ takes0 (fun W pn xe tk po => (pss_one (ps_expr (clx tk D_values_of (hr.mono (by decide)) (pa_cons (pv 0) (pa_cons (pv 1) pa_nil))))))
      (fun a oe cls d pn hz hf => (pss_one (ps_ret (pe_and (pe_callB (call_isX _ T.c_NoShape hz hf) (by rfl) T.z_isinstance (by decide +kernel) (pa_cons (pv 2) (pa_cons (pe_glob (v := .ref (ga K "NoShape")) (by rfl) T.x_NoShape.g rfl) pa_nil))) (pe_and (pe_callB (call_isX _ T.c_NoShape hz hf) (by rfl) T.z_isinstance (by decide +kernel) (pa_cons (pv 2) (pa_cons (pe_bltn (v := .ty "ValueError") (by rfl) T.z_ValueError (by decide +kernel) rfl) pa_nil))) (pe_one (pe_not (pe_callB (call_isX _ T.c_NoShape hz hf) (by rfl) T.z_isinstance (by decide +kernel) (pa_cons (pv 2) (pa_cons (pe_glob (v := .ref (ga K "NoValue")) (by rfl) T.x_NoValue.g rfl) pa_nil)))))))))))
      (pss_one (ps_ret pe_bl))), ?_⟩
    refine ⟨_, rfl, _, rfl, t, c, us, rs, cs, rfl, S.t, S.c, S.d, S.tp, S.vl, S.srt, S.le, S.len, fun _ H' s => ?_, fun z => absurd z hn⟩
    refine ⟨true, T.e_NoShape_AskError, fun _ a _ => ?_, fun z => by cases z⟩
    refine ⟨_, rfl, rfl, rfl, _, _, _, rfl, fun u r => r, T.k_NoShape_NoShape, _, rfl, iteT ?_⟩
    refine ⟨_, rfl, rfl, rfl, _, _, _, rfl, fun u r => r, T.k_NoShape_ValueError, _, rfl, iteT ?_⟩
    refine ⟨_, rfl, rfl, rfl, _, _, _, rfl, fun u r => r, T.k_NoShape_NoValue, _, rfl, ?_⟩
    exact hQ H' s
/-! _law_valued -/
theorem dpI {H : Hp} : ∀ rs : List Int, DpAll K H (rs.map V.int) (rs.map PyData.int)
  | [] => .nil
  | r :: rs => .cons (.int r) (dpI rs)
theorem pdsI (rs : List Int) : Pds (rs.map PyData.int) := fun d hd => by
  obtain ⟨x, _, rfl⟩ := List.mem_map.mp hd
  exact ⟨rfl, rfl, by show 0 ≤ 16; decide⟩
theorem pd_ints_sh {rs : List Int} : SeqAt.shaped (.tuple (rs.map PyData.int)) = true :=
  Bool.and_eq_true_iff.mpr ⟨(pdsI rs).cl, decide_eq_true (by show PyData.depthAll (rs.map PyData.int) + 1 ≤ 64; have := (pdsI rs).dp; omega)⟩
theorem pd_ints_eqv : ∀ {rs rs' : List Int}, PyData.eqv (.tuple (rs.map PyData.int)) (.tuple (rs'.map PyData.int)) = decide (rs = rs')
  | [], [] => rfl
  | [], _ :: _ => rfl
  | _ :: _, [] => rfl
  | x :: r, y :: r' => by
    have ih := pd_ints_eqv (rs := r) (rs' := r')
    show (PyData.eqv (.int x) (.int y) && PyData.eqv (.tuple (r.map PyData.int)) (.tuple (r'.map PyData.int))) = _
    rw [ih, eqv_int, ← Bool.decide_and]
    exact decide_eq_decide.mpr (by rw [List.cons.injEq])
theorem nrm_self {a b : Int} (h : Low a b) : nrm a b = (a, b) := by
  obtain ⟨h1, h2⟩ := h
  unfold nrm
  rw [if_neg (by omega), h2, Int.ediv_one, Int.ediv_one]
def spValued (K : PySem.W.Frag) : Sp := fun vs H Q _ => ∃ t c us, ∃ (rs : List Int) (cs : List Vq), vs = [.ref t, .ref c] ∧ ShIn K H t c us rs cs ∧ isSh cs.length rs ∧ ∀ H', Same H H' → Q (.bl true) H'
theorem d_valued (hP : PF P "/claim/cut.py") (T : Txt K mg) : Dn P w K mg base CX0 8 "_law_valued" (spValued K) := by
  obtain ⟨fd, F⟩ := T.f__law_valued
  have D_values_of := d_values_of (w := w) (base := base) hP T
  have D__law_lowest := d_lowest (P := P) (w := w) (base := base) T
  have D__law_ranks := d_ranks (P := P) (w := w) (base := base) T
  refine dnN T.g__law_valued F (fun _ _ _ _ _ _ us hl => match us, hl with | [_, _], _ => rfl) sc__law_valued (fun vs H Q E h => ?_) (fun cdv A outer s H vs Q E hr h => ?_)
  · obtain ⟨t, c, us, rs, cs, rfl, _⟩ := h
    rfl
  · obtain ⟨t, c, us, rs, cs, rfl, S, hsh, hQ⟩ := h
    refine ⟨_, PSs.nox (pss_cons (ps_set (i := 2) sc__law_valued.nd rfl (.inl rfl) (cl0 D_values_of (hr.mono (by decide)) (pa_cons (pv 0) (pa_cons (pv 1) pa_nil))))
      (pss_cons (ps_if (PW.pt (pw_or (pt_not (pt_val (pe_callB call_isi (by rfl) T.z_isinstance (by decide +kernel) (pa_cons (pv 2) (pa_cons (pe_bltn (v := .ty "list") (by rfl) T.z_list (by decide +kernel) rfl) pa_nil))))) (pw_or1 (pt_cmpR op_ne (pe_callB call_len_seq (by rfl) T.z_len (by decide +kernel) (pa_cons (pv 2) pa_nil)) (pe_op op_sub (pe_callB call_len_seq (by rfl) T.z_len (by decide +kernel) (pa_cons (pv 0) pa_nil)) (pe_callB call_len_seq (by rfl) T.z_len (by decide +kernel) (pa_cons (pv 1) pa_nil))) (nomark _))))) (pss_one (ps_ret pe_bl)) pss_nil)
      (pss_cons (ps_for PassesOwn.never rfl (pi_list (pv 2)) (pg_name (i := 3) sc__law_valued.nd rfl (.inl rfl))
      (pss_one (ps_if (PW.pt (pw_or (pt_not (pt_val (pe_callB call_isi (by rfl) T.z_isinstance (by decide +kernel) (pa_cons (pv 3) (pa_cons (pe_bltn (v := .ty "tuple") (by rfl) T.z_tuple (by decide +kernel) rfl) pa_nil))))) (pw_or (pt_cmpR op_ne (pe_callB call_len_seq (by rfl) T.z_len (by decide +kernel) (pa_cons (pv 3) pa_nil)) pe_int (nomark _)) (pw_or1 (pt_cmpR (op_neD hr.units) (cl D__law_lowest (hr.mono (by decide)) (pa_cons (pe_ix ix_tup (pv 3) pe_int (fun _ _ => rfl)) (pa_cons (pe_ix ix_tup (pv 3) pe_int (fun _ _ => rfl)) pa_nil))) (pv 3) (nomark _)))))) (pss_one (ps_ret pe_bl)) pss_nil)))
      (pss_one (ps_ret (pe_cmpR (op_eqD hr.units) (cl D__law_ranks (hr.mono (by decide)) (pa_cons (pe_op op_cat (pe_callTy call_list_of (by rfl) T.z_list (by decide +kernel) (pa_cons (pv 1) pa_nil)) (pv 2)) pa_nil)) (pv 0) (nomark _))))))), ?_⟩
    refine ⟨_, rfl, _, rfl, t, c, us, rs, cs, rfl, S.t, S.c, S.d, S.tp, S.vl, S.srt, S.le, S.len, fun z => absurd hsh z, fun _ p us' fs H1 s1 np p1 d1 lf hf hrk => ?_⟩
    have lus : us.length = cs.length := dp_len S.d
    have lus' : us'.length = fs.length := dp_len d1
    have S1 := S.same s1
    refine ⟨_, rfl, _, _, _, _, _, rfl, .ty _, SqL.ty (SqL.of p1), kit_ty (kit_k .lst .lst), _, rfl, iteF ?_⟩
    refine ⟨_, rfl, _, _, rfl, .inl (SqL.of p1), _, rfl, _, _, rfl, .inr S1.t, _, rfl, _, _, rfl, .inl S1.c, _, _, rfl, rfl, rfl, _, rfl, ?_⟩
    refine if_neg_of (by rw [lus', lf, lus, List.length_map]; have := S.le; rw [show (((rs.length - cs.length : Nat) : Int)) = ((rs.length : Nat) : Int) - ((cs.length : Nat) : Int) by omega, decide_eq_true rfl]; rfl) ?_
    refine ⟨_, rfl, p, rfl, ⟨_, SqL.of p1⟩, for_list (K := K) (a := p) (xs := us') (fun i σ H' => (∃ o, σ = [some (.ref t), some (.ref c), some (.ref p), o]) ∧ Same H1 H') ⟨⟨_, rfl⟩, .refl _⟩ (fun i σ H' _ h => SqL.of (h.2 _ _ p1)) ?_ ?_⟩
    · rintro i v σ H' hg ⟨⟨o, rfl⟩, s2⟩
      obtain ⟨d, hd, hdp⟩ := DpAll.get d1 hg
      obtain ⟨x, hx, rfl⟩ := getM hd
      obtain ⟨q, rfl, hq⟩ := dp_val (Dp.same s2 hdp)
      obtain ⟨low, bw⟩ := hf x (List.mem_of_getElem? hx)
      refine ⟨_, rfl, _, _, _, _, _, rfl, .ty _, SqT.ty hq, kit_ty (kit_k .tup .tup), _, rfl, iteF ?_⟩
      refine ⟨_, rfl, _, _, rfl, .inr hq, rfl, _, rfl, iteF ?_⟩
      refine ⟨_, rfl, _, _, 0, _, rfl, rfl, hq, atI_nat (j := 0) rfl, _, rfl, _, _, 1, _, rfl, rfl, hq, atI_nat (j := 1) rfl, ?_⟩
      refine ⟨_, _, rfl, low.1, Nat.lt_of_lt_of_le bw.2 (Nat.pow_le_pow_right (by decide) (by decide)), fun q2 H2 nq2 s3 e2 => ?_⟩
      rw [nrm_self low] at e2
      refine ⟨_, rfl, valD x, valD x, .tup (SqT.of e2) (.cons (.int _) (.cons (.int _) .nil)), Dp.same (s2.trans s3) hdp, (Pd.valD x).shaped, (Pd.valD x).shaped, _, rfl, if_neg_of (by rw [eqv_valD, decide_eq_true rfl]; rfl) ?_⟩
      exact ⟨⟨_, rfl⟩, s2.trans s3⟩
    · rintro σ H' ⟨⟨o, rfl⟩, s2⟩
      have S2 := S1.same s2
      have p2 := s2 _ _ p1
      have d2 := DpAll.same s2 d1
      refine ⟨_, rfl, _, _, rfl, .inl S2.c, fun l1 n1 => ?_⟩
      generalize eH2 : upd H' l1 _ = H2
      have s3 : Same H' H2 := eH2 ▸ same_upd n1
      have e2 : H2 l1 = some _ := eH2 ▸ upd_same
      refine ⟨_, rfl, l1, p, _, _, rfl, rfl, e2, s3 _ _ p2, Nat.le_trans (by have := S.le; have := S.len; omega : us.length + us'.length ≤ 1000) (by decide), fun l2 n2 => ?_⟩
      generalize eH3 : upd H2 l2 _ = H3
      have s4 : Same H2 H3 := eH3 ▸ same_upd n2
      have e3 : H3 l2 = some _ := eH3 ▸ upd_same
      have s34 := s3.trans s4
      have d3 : DpAll K H3 (us ++ us') ((cs ++ fs).map valD) := by
        rw [List.map_append]
        exact DpAll.app (DpAll.same s34 S2.d) (DpAll.same s34 d2)
      refine ⟨l2, _, cs ++ fs, rfl, SqL.of e3, d3, fun x hx => ?_, by rw [List.length_append]; have := S.le; have := S.len; omega, fun q H4 s5 e4 => ?_⟩
      · rcases List.mem_append.mp hx with h | h
        · exact ⟨(S.vl x h).low, vl_bw (S.vl x h)⟩
        · exact hf x h
      · rw [hrk] at e4
        have S4 := S2.same (s34.trans s5)
        have dI : DpAll K H4 (rs.map V.int) (rs.map PyData.int) := dpI _
        refine ⟨_, rfl, .tuple (rs.map PyData.int), .tuple (rs.map PyData.int), .tup (SqT.of e4) dI, .tup S4.t dI, pd_ints_sh, pd_ints_sh, ?_⟩
        rw [pd_ints_eqv]
        rw [decide_eq_true rfl]
        exact hQ H4 (s1.trans (s2.trans (s34.trans s5)))
end
end K23
namespace K23
open PySem PySem.Spec PyProof.Rows L2 He TL EL
section
variable {P : Program} {w : World} {K : PySem.W.Frag} {mg : Str → Option Value} {base : Heap}
theorem TupAll.snoc {H : Hp} {us : List V} {cs : List Vq} {q : Addr} {x : Vq} (h : TupAll H us cs) (hl : us.length = cs.length) (hq : H q = some (.tup [.int x.1, .int x.2])) : TupAll H (us ++ [.ref q]) (cs ++ [x]) := fun z hz => by
  rw [List.zip_append hl] at hz
  rcases List.mem_append.mp hz with hz | hz
  · exact h z hz
  · rw [List.zip_cons_cons, List.zip_nil_left, List.mem_singleton] at hz
    subst hz
    exact ⟨q, rfl, hq⟩
/-- the lists of a turn -/
structure Sit (K : PySem.W.Frag) (Hi H : Hp) (p p3 p5 : Addr) (us ws : List V) (cs xs : List Vq) : Prop where
  s : Same Hi H
  np : Hi p = none
  n5i : Hi p5 = none
  pool : Pool H p
  c : H p3 = some (.lst us)
  v : H p5 = some (.lst ws)
  dc : DpAll K H us (cs.map valD)
  dv : DpAll K H ws (xs.map valD)
  tc : TupAll H us cs
  vc : ∀ x ∈ cs, Vl x
  vx : ∀ x ∈ xs, Vl x
  srt : SrtV cs
  lc : cs.length ≤ 4
  lx : 1 ≤ xs.length ∧ xs.length ≤ 20
  n3 : p ≠ p3
  n5 : p ≠ p5
  n35 : p3 ≠ p5
theorem Sit.same {Hi H H' : Hp} {p p3 p5 : Addr} {us ws : List V} {cs xs : List Vq} (h : Sit K Hi H p p3 p5 us ws cs xs) (s : Same H H') : Sit K Hi H' p p3 p5 us ws cs xs :=
  ⟨h.s.trans s, h.np, h.n5i, h.pool.same s, s _ _ h.c, s _ _ h.v, DpAll.same s h.dc, DpAll.same s h.dv, h.tc.same s, h.vc, h.vx, h.srt, h.lc, h.lx, h.n3, h.n5, h.n35⟩
theorem Sit.md {Hi H H' : Hp} {p p3 p5 : Addr} {us ws : List V} {cs xs : List Vq} (h : Sit K Hi H p p3 p5 us ws cs xs) (m : Md [p] H H') (hp : Pool H' p) : Sit K Hi H' p p3 p5 us ws cs xs :=
  ⟨same_md h.s m (by simp [h.np]), h.np, h.n5i, hp, m.out _ _ h.c (by simp [Ne.symm h.n3]), m.out _ _ h.v (by simp [Ne.symm h.n5]), m.dpAll (pds_val _).nl h.dc, m.dpAll (pds_val _).nl h.dv, h.tc.md m, h.vc, h.vx, h.srt, h.lc, h.lx, h.n3, h.n5, h.n35⟩
theorem isSh_due {cs xs : List Vq} (hc : ∀ x ∈ cs, Low x.1 x.2) (hx : ∀ x ∈ xs, Low x.1 x.2) (srt : SrtV cs) : isSh cs.length (rk (cs ++ xs)) := by
  have hall : ∀ x ∈ cs ++ xs, Low x.1 x.2 := fun x h => (List.mem_append.mp h).elim (hc x) (hx x)
  refine ⟨by rw [rk_len, List.length_append]; omega, rk_cov hall, fun i a b hi ha hb => ?_⟩
  have o := rk_ord hall
  have h1 : (cs ++ xs)[i]? = some cs[i] := by rw [List.getElem?_append_left (by omega), List.getElem?_eq_getElem (by omega)]
  have h2 : (cs ++ xs)[i + 1]? = some cs[i + 1] := by rw [List.getElem?_append_left hi, List.getElem?_eq_getElem hi]
  exact (o.2 _ _ _ _ _ _ h1 h2 ha hb).mp (List.pairwise_iff_getElem.mp srt i (i + 1) (by omega) hi (by omega))
theorem pd_two (xs cs : List Vq) : SeqAt.shaped (.list [.list (xs.map valD), .list (cs.map valD)]) = true ∧ PyData.eqv (.list [.list (xs.map valD), .list (cs.map valD)]) (.list [.list (xs.map valD), .list (cs.map valD)]) = true := by
  have cl : PyData.canLay0 (.list [.list (xs.map valD), .list (cs.map valD)]) = true := by
    show (PyData.canLayAll0 (xs.map valD) && (PyData.canLayAll0 (cs.map valD) && true)) = true
    rw [(pds_val xs).cl, (pds_val cs).cl]
    rfl
  refine ⟨Bool.and_eq_true_iff.mpr ⟨cl, decide_eq_true ?_⟩, SeqAt.eqv_refl _ cl⟩
  show max (PyData.depthAll (xs.map valD) + 1) (max (PyData.depthAll (cs.map valD) + 1) 0) + 1 ≤ 64
  have := (pds_val xs).dp
  have := (pds_val cs).dp
  omega
abbrev rLenS (K : PySem.W.Frag) : List V → Hp → VK → Prop := fun xs H Q => ∃ p ys, xs = [V.ref p] ∧ (SqL K H p ys ∨ SqT K H p ys) ∧ Q (V.int (ys.length : Nat)) H
def spLaw (K : PySem.W.Frag) : Sp := fun vs H Q _ => ∃ (a : Addr) (ns : List Int), vs = [.ref a] ∧ SqL K H a (ns.map V.int) ∧ ns.length ≤ 63 ∧ ∀ H', Q (.bl true) H'
set_option maxHeartbeats 1000000 in
theorem ok_law {fd : FuncData} (hP : PF P "/claim/cut.py") (T : Txt K mg) (F : FunD K "law" "law" (defArgs s_law) (defBody s_law) (defScope s_law) ([] : List V) [] (ga K "law") fd) : FnOk P w K mg base CX0 10 (ga K "law") fd ["_law_script"] (spLaw K) := by
  have D__law_pool := d_pool (P := P) (w := w) (base := base) T
  have D__law_take := d_take (P := P) (w := w) (base := base) T
  have D__law_number := d_number (P := P) (w := w) (base := base) T
  have D__law_unlike := d_unlike (P := P) (w := w) (base := base) T
  have D__law_ranks := d_ranks (P := P) (w := w) (base := base) T
  have D_shape_of := d_shape_of (P := P) (w := w) (base := base) T
  have D_picked := d_picked (P := P) (w := w) (base := base) T
  have D__law_is_shape := d_lsh (P := P) (w := w) (base := base) T
  have D_is_shape := d_is_shape (P := P) (w := w) (base := base) T
  have D__law_valued := d_valued (w := w) (base := base) hP T
  have D__law_refused := d_refused (w := w) (base := base) hP T
  refine F.ok sc_law (fun vs H Q E h => ?_) (fun cdv A outer s H vs Q E hr h => ?_)
  · obtain ⟨a, ns, rfl, _⟩ := h
    rfl
  · obtain ⟨a, ns, rfl, hS, hl, q⟩ := h
    refine ⟨_, PSs.nox (pss_cons (ps_for PassesOwn.never rfl (pi_range1 (by rfl) T.z_range (pa_cons (pe_callB (call_max2 rfl) (by rfl) T.z_max (by decide +kernel) (pa_cons pe_int (pa_cons (pe_callB (call_min2 rfl) (by rfl) T.z_min (by decide +kernel) (pa_cons pe_int (pa_cons (pe_callB call_len_seq (by rfl) T.z_len (by decide +kernel) (pa_cons (pv 0) pa_nil)) pa_nil))) pa_nil))) pa_nil)) (pg_name (i := 1) sc_law.nd rfl (.inl rfl))
      (pss_cons (ps_set (i := 2) sc_law.nd rfl (.inr rfl) (cl D__law_pool (hr.mono (by decide)) (pa_cons (pv 0) (pa_cons (pv 1) pa_nil))))
      (pss_cons (ps_set (i := 3) sc_law.nd rfl (.inl rfl) (cl D__law_unlike (hr.mono (by decide)) (pa_cons (pe_lc (own := [("_law_turn", 4)]) (tt := tYes) (by rfl) sc_law.nd (pi_range1 (by rfl) T.z_range (pa_cons (cl D__law_take (hr.mono (by decide)) (pa_cons (pv 2) (pa_cons pe_int pa_nil))) pa_nil)) (blkOk_by (own := [("_law_turn", 4)]) (N := ["_law_script", "_law_k", "_law_pool_here", "_law_constants", "_law_turn", "_law_values", "_law_due", "_law_handed", "_law_shape", "_law_rank", "_law_places", "_law_everything", "_law_at", "_law_bent", "_law_many", "_law_good"]) (sc := defScope s_law) (by decide +kernel)) (fun _ _ _ _ _ => (pg_name (i := 4) sc_law.nd rfl (.inl rfl))) (fun _ _ _ _ _ => pts_nil) (fun _ _ _ _ _ => (cl D__law_number (hr.mono (by decide)) (pa_cons (pv 2) pa_nil)))) pa_nil)))
      (pss_cons (ps_setLc (i := 5) (own := [("_law_turn", 4)]) (tt := tYes) (by rfl) sc_law.nd rfl rfl (sw_true rfl rfl rfl (by decide +kernel)) (pi_range1 (by rfl) T.z_range (pa_cons (pe_op op_add pe_int (cl D__law_take (hr.mono (by decide)) (pa_cons (pv 2) (pa_cons pe_int pa_nil)))) pa_nil)) (blkOk_by (own := [("_law_turn", 4)]) (N := ["_law_script", "_law_k", "_law_pool_here", "_law_constants", "_law_turn", "_law_values", "_law_due", "_law_handed", "_law_shape", "_law_rank", "_law_places", "_law_everything", "_law_at", "_law_bent", "_law_many", "_law_good"]) (sc := defScope s_law) (by decide +kernel)) (fun _ _ _ _ _ => (pg_name (i := 4) sc_law.nd rfl (.inl rfl))) (fun _ _ _ _ _ => pts_nil) (fun _ _ _ _ _ => (cl D__law_number (hr.mono (by decide)) (pa_cons (pv 2) pa_nil))))
      (pss_mid (ps_if (PW.pt (pw_and (pt_cmpR (op_neD hr.units) (pv 3) (pe_lst pa_nil) (nomark _)) (pw_and1 (pt_cmpR op_eq (cl D__law_take (hr.mono (by decide)) (pa_cons (pv 2) (pa_cons pe_int pa_nil))) pe_int (nomark _))))) (pss_one (ps_expr (pe_bm PySem.F.plainAttrs_list PySem.F.slot_list_append PySem.F.type_list_append mt_append (pv 5) (pa_cons (pe_ix ix_list (pv 3) (cl D__law_take (hr.mono (by decide)) (pa_cons (pv 2) (pa_cons (pe_callB call_len_seq (by rfl) T.z_len (by decide +kernel) (pa_cons (pv 3) pa_nil)) pa_nil))) (fun _ _ => rfl)) pa_nil)))) pss_nil)
      (pss_mid (ps_if (pt_cmpR op_eq (cl D__law_take (hr.mono (by decide)) (pa_cons (pv 2) (pa_cons pe_int pa_nil))) pe_int (nomark _)) (pss_one (ps_set (i := 5) sc_law.nd rfl (.inl rfl) (pe_op op_cat (pv 5) (pe_slice sl_list (pv 5) po_none (po_some pe_int))))) pss_nil)
      (pss_cons (ps_set (i := 6) sc_law.nd rfl (.inr rfl) (cl D__law_ranks (hr.mono (by decide)) (pa_cons (pe_op op_cat (pv 3) (pv 5)) pa_nil)))
      (pss_cons (ps_set (i := 7) sc_law.nd rfl (.inl rfl) (pe_lst (pa_cons (pe_callTy call_list_of (by rfl) T.z_list (by decide +kernel) (pa_cons (pv 5) pa_nil)) (pa_cons (pe_callTy call_list_of (by rfl) T.z_list (by decide +kernel) (pa_cons (pv 3) pa_nil)) pa_nil))))
      (pss_cons (ps_set (i := 8) sc_law.nd rfl (.inl rfl) (cl D_shape_of (hr.mono (by decide)) (pa_cons (pe_ix ix_list (pv 7) pe_int (fun _ _ => rfl)) (pa_cons (pe_ix ix_list (pv 7) pe_int (fun _ _ => rfl)) pa_nil))))
      (pss_cons (ps_if (PW.pt (pw_or (pt_not (pt_val (pe_callB call_isi (by rfl) T.z_isinstance (by decide +kernel) (pa_cons (pv 8) (pa_cons (pe_bltn (v := .ty "tuple") (by rfl) T.z_tuple (by decide +kernel) rfl) pa_nil))))) (pw_or (pt_cmpR (op_neD hr.units) (pv 8) (pv 6) (nomark _)) (pw_or1 (pt_cmpR (op_neD hr.units) (pv 7) (pe_lst (pa_cons (pv 5) (pa_cons (pv 3) pa_nil))) (nomark _)))))) (pss_one (ps_ret pe_bl)) pss_nil)
      (pss_cons (ps_if (pt_cmpR (op_neD hr.units) (pe_lc (own := [("_law_rank", 9)]) (by rfl) sc_law.nd (pi_tup (pv 8)) (blkOk_by (own := [("_law_rank", 9)]) (N := ["_law_script", "_law_k", "_law_pool_here", "_law_constants", "_law_turn", "_law_values", "_law_due", "_law_handed", "_law_shape", "_law_rank", "_law_places", "_law_everything", "_law_at", "_law_bent", "_law_many", "_law_good"]) (sc := defScope s_law) (by decide +kernel)) (fun _ _ _ _ _ => (pg_name (i := 9) sc_law.nd rfl (.inl rfl))) (fun _ _ _ _ _ => pts_one (PW.pt (pw_or (pt_not (pt_val (pe_callB (show CallR _ (.builtin "isinstance") (L2.rIsi K) from call_isi) (by rfl) T.z_isinstance (by decide +kernel) (pa_cons (pv 9) (pa_cons (pe_bltn (v := .ty "int") (by rfl) T.z_int (by decide +kernel) rfl) pa_nil))))) (pw_or1 (pt_val (pe_callB (show CallR _ (.builtin "isinstance") (L2.rIsi K) from call_isi) (by rfl) T.z_isinstance (by decide +kernel) (pa_cons (pv 9) (pa_cons (pe_bltn (v := .ty "bool") (by rfl) T.z_bool (by decide +kernel) rfl) pa_nil)))))))) (fun _ _ _ _ _ => (pv 9))) (pe_lst pa_nil) (nomark _)) (pss_one (ps_ret pe_bl)) pss_nil)
      (pss_cons (ps_setLc (i := 10) (own := [("_law_turn", 4)]) (tt := tYes) (by rfl) sc_law.nd rfl rfl (sw_true rfl rfl rfl (by decide +kernel)) (pi_range1 (by rfl) T.z_range (pa_cons (pe_op op_add pe_int (cl D__law_take (hr.mono (by decide)) (pa_cons (pv 2) (pa_cons pe_int pa_nil)))) pa_nil)) (blkOk_by (own := [("_law_turn", 4)]) (N := ["_law_script", "_law_k", "_law_pool_here", "_law_constants", "_law_turn", "_law_values", "_law_due", "_law_handed", "_law_shape", "_law_rank", "_law_places", "_law_everything", "_law_at", "_law_bent", "_law_many", "_law_good"]) (sc := defScope s_law) (by decide +kernel)) (fun _ _ _ _ _ => (pg_name (i := 4) sc_law.nd rfl (.inl rfl))) (fun _ _ _ _ _ => pts_nil) (fun _ _ _ _ _ => (cl D__law_take (hr.mono (by decide)) (pa_cons (pv 2) (pa_cons (pe_callB (show CallR _ (.builtin "len") (rLenS K) from call_len_seq) (by rfl) T.z_len (by decide +kernel) (pa_cons (pv 6) pa_nil)) pa_nil)))))
      (pss_cons (ps_set (i := 11) sc_law.nd rfl (.inr rfl) (pe_op op_cat (pv 3) (pv 5)))
      (pss_cons (ps_if (pt_cmpR (op_neD hr.units) (cl D_picked (hr.mono (by decide)) (pa_cons (pv 8) (pa_cons (pe_callTy call_list_of (by rfl) T.z_list (by decide +kernel) (pa_cons (pv 10) pa_nil)) pa_nil))) (cl D__law_ranks (hr.mono (by decide)) (pa_cons (pe_lc (own := [("_law_at", 12)]) (tt := tYes) (by rfl) sc_law.nd (pi_list (pv 10)) (blkOk_by (own := [("_law_at", 12)]) (N := ["_law_script", "_law_k", "_law_pool_here", "_law_constants", "_law_turn", "_law_values", "_law_due", "_law_handed", "_law_shape", "_law_rank", "_law_places", "_law_everything", "_law_at", "_law_bent", "_law_many", "_law_good"]) (sc := defScope s_law) (by decide +kernel)) (fun _ _ _ _ _ => (pg_name (i := 12) sc_law.nd rfl (.inl rfl))) (fun _ _ _ _ _ => pts_nil) (fun _ _ _ _ _ => (pe_ix (show IxR _ (rIxL K) from ix_list) (pv 11) (pv 12) (fun _ _ => rfl)))) pa_nil)) (nomark _)) (pss_one (ps_ret pe_bl)) pss_nil)
      (pss_cons (ps_set (i := 12) sc_law.nd rfl (.inl rfl) (cl D__law_take (hr.mono (by decide)) (pa_cons (pv 2) (pa_cons (pe_callB (show CallR _ (.builtin "len") (rLenS K) from call_len_seq) (by rfl) T.z_len (by decide +kernel) (pa_cons (pv 6) pa_nil)) pa_nil))))
      (pss_cons (ps_set (i := 13) sc_law.nd rfl (.inl rfl) (pe_op op_catA (pe_op op_catA (pe_slice sl_tupA (pv 6) po_none (po_some (pv 12))) (pe_tup (pa_cons (pe_op op_add (pe_ix ix_tup (pv 6) (pv 12) (fun _ _ => rfl)) (pe_ix ix_list (pe_lst (pa_cons pe_int (pa_cons (pe_un un_neg pe_int) (pa_cons pe_int (pa_cons pe_int pa_nil))))) (cl D__law_take (hr.mono (by decide)) (pa_cons (pv 2) (pa_cons pe_int pa_nil))) (fun _ _ => rfl))) pa_nil))) (pe_slice sl_tupA (pv 6) (po_some (pe_op op_add (pv 12) pe_int)) po_none)))
      (pss_cons (ps_set (i := 14) sc_law.nd rfl (.inl rfl) (pe_callB call_len_seq (by rfl) T.z_len (by decide +kernel) (pa_cons (pv 3) pa_nil)))
      (pss_cons (ps_set (i := 15) sc_law.nd rfl (.inl rfl) (cl D__law_is_shape (hr.mono (by decide)) (pa_cons (pv 13) (pa_cons (pv 14) pa_nil))))
      (pss_cons (ps_if (pt_cmpR (op_neD hr.units) (pe_lst (pa_cons (cl D_is_shape (hr.mono (by decide)) (pa_cons (pv 6) (pa_cons (pv 14) pa_nil))) (pa_cons (cl D_is_shape (hr.mono (by decide)) (pa_cons (pv 13) (pa_cons (pv 14) pa_nil))) (pa_cons (cl D_is_shape (hr.mono (by decide)) (pa_cons (pe_callTy call_list_of (by rfl) T.z_list (by decide +kernel) (pa_cons (pv 6) pa_nil)) (pa_cons (pv 14) pa_nil))) pa_nil)))) (pe_lst (pa_cons pe_bl (pa_cons (pv 15) (pa_cons pe_bl pa_nil)))) (nomark _)) (pss_one (ps_ret pe_bl)) pss_nil)
      (pss_cons (ps_if (PW.pt (pw_or (pt_not (pt_val (cl D__law_valued (hr.mono (by decide)) (pa_cons (pv 6) (pa_cons (pv 3) pa_nil))))) (pw_or1 (PW.pt (pw_and (pt_val (pv 15)) (pw_and1 (pt_not (pt_val (cl D__law_valued (hr.mono (by decide)) (pa_cons (pv 13) (pa_cons (pv 3) pa_nil))))))))))) (pss_one (ps_ret pe_bl)) pss_nil)
      (pss_one (ps_if (PW.pt (pw_and (pt_not (pt_val (pv 15))) (pw_and1 (pt_not (pt_val (cl D__law_refused (hr.mono (by decide)) (pa_cons (pv 13) (pa_cons (pv 3) pa_nil)))))))) (pss_one (ps_ret pe_bl)) pss_nil))))))))))))))))))))))
      (pss_one (ps_ret pe_bl))), ?_⟩
    refine ⟨_, rfl, _, _, rfl, .inl hS, _, _, rfl, _, _, rfl, _, rfl, ?_, ?_, for_range (n := _) (fun k σ H' => (∃ o1 o2 o3 o4 o5 o6 o7 o8 o9 o10 o11 o12 o13 o14 o15, σ = [some (.ref a), o1, o2, o3, o4, o5, o6, o7, o8, o9, o10, o11, o12, o13, o14, o15]) ∧ Same H H') ⟨⟨_, _, _, _, _, _, _, _, _, _, _, _, _, _, _, rfl⟩, .refl _⟩ ?_ ?_⟩
    · split <;> split <;> omega
    · split <;> split <;> omega
    rotate_left
    · rintro σ H' ⟨⟨o1, o2, o3, o4, o5, o6, o7, o8, o9, o10, o11, o12, o13, o14, o15, rfl⟩, s⟩
      exact q H'
    rintro k σ Hi hk ⟨⟨o1, o2, o3, o4, o5, o6, o7, o8, o9, o10, o11, o12, o13, o14, o15, rfl⟩, si⟩
    have hk20 : k ≤ 20 := by
      revert hk
      split <;> split <;> omega
    have big : ∀ {n : Nat}, n ≤ 1000 → n < sizeLine := fun h => Nat.lt_of_le_of_lt h (by decide)
    have bigl : ∀ {n : Nat}, n ≤ 1000 → n ≤ sizeLine := fun h => Nat.le_trans h (by decide)
    show gName 1 (V.int (0 + (k : Int))) _ _ _
    rw [Int.zero_add]
    refine ⟨_, rfl, _, rfl, a, ns, k, rfl, Same.seq si hS, by omega, by omega, fun p H1 np s1 p1 => ?_⟩
    clear hk
    -- the constants
    refine ⟨_, rfl, p, 4, rfl, by decide, by decide, p1, fun n H2 n0 n1 p2 b2 => ?_⟩
    have m2 := p1.mdB b2
    have s2 : Same Hi H2 := same_md s1 m2 (by simp [np])
    refine ⟨_, rfl, by omega, by omega, fun L nL => ?_⟩
    have hpL : p ≠ L := fun z => by
      obtain ⟨_, _, e, _⟩ := p2
      rw [z, nL] at e
      cases e
    refine lc_it walk_range (fun i H' => ∃ us xs, Md [L, p] (upd H2 L (.lst [])) H' ∧ Pool H' p ∧ H' L = some (.lst us) ∧ DpAll K H' us (xs.map valD) ∧ TupAll H' us xs ∧ (∀ x ∈ xs, Vl x) ∧ xs.length = i) ⟨[], [], .refl _ _, p2.same (same_upd nL), upd_same, .nil, fun z hz => (by cases hz), fun x hx => (by cases hx), rfl⟩ (fun _ _ _ _ => trivial) ?_ ?_
    · rintro i v H' H'' hi ⟨us, xs, m, pp, eL, dd, tt, vv, ll⟩ ⟨rfl, rfl⟩
      refine ⟨rfl, tYes_of ⟨_, rfl, p, rfl, pp, fun q x H3 nq m3 p3 e3 vx => ?_⟩⟩
      have eL3 := m3.out _ _ eL (by simp [Ne.symm hpL])
      have lus : us.length = xs.length := dp_len dd
      have mu : Md [L, p] H3 (upd H3 L (.lst (us ++ [.ref q]))) := Md.upd eL3 rfl (by simp)
      refine ⟨_, eL3, big (by omega), us ++ [.ref q], xs ++ [x], m.trans ((m3.mono (by simp)).trans mu), p3.md (S := [L]) (Md.upd eL3 rfl (by simp)) (by simp [hpL]), upd_same, ?_, ?_, ?_, by rw [List.length_append, ll]; rfl⟩
      · rw [List.map_append]
        exact DpAll.snoc (mu.dp (Pd.valD x).nl (.tup (SqT.of e3) (.cons (.int _) (.cons (.int _) .nil)))) (mu.dpAll (pds_val _).nl (m3.dpAll (pds_val _).nl dd))
      · exact (TupAll.snoc (tt.md m3) lus e3).md mu
      · exact fun y hy => (List.mem_append.mp hy).elim (vv y) fun z => by rw [List.mem_singleton.mp z]; exact vx
    rintro H3 ⟨us0, xs0, m3, p3, eL3, d3, t3, v3, l3⟩
    have m3' : Md [p] H2 H3 := m3.new (same_upd nL) nL
    have s3 : Same Hi H3 := same_md s2 m3' (by simp [np])
    refine ⟨L, us0, xs0, rfl, SqL.of eL3, d3, fun x hx => ⟨(v3 x hx).low, vl_bw (v3 x hx)⟩, by omega, fun pc us H4 npc s4 e4 d4 z4 => ?_⟩
    have vc : ∀ x ∈ asc xs0, Vl x := fun x hx => v3 x ((asc_mem _ _).mp hx)
    have srt : SrtV (asc xs0) := asc_srt fun x hx => (v3 x hx).low
    have lc : (asc xs0).length ≤ 4 := Nat.le_trans (asc_len _) (by omega)
    have tc : TupAll H4 us (asc xs0) := fun z hz => (t3.same s4) z (z4 z hz)
    have p4 := p3.same s4
    have s4' := s3.trans s4
    have hpc : p ≠ pc := fun z => by
      obtain ⟨_, _, e, _⟩ := p3
      rw [z, npc] at e
      cases e
    generalize asc xs0 = cs at d4 vc srt lc tc
    clear t3 d3 eL3 z4 m3 m3' s3 s4 p3 npc l3 v3 s2 m2 p2 b2 hpL nL n0 n1 p1 s1
    -- the values
    refine ⟨_, rfl, p, 6, rfl, by decide, by decide, p4, fun n H5 n0 n1 p5 b5 => ?_⟩
    have m5 := p4.mdB b5
    have s5 : Same Hi H5 := same_md s4' m5 (by simp [np])
    have e5 := m5.out _ _ e4 (by simp [Ne.symm hpc])
    have d5 := m5.dpAll (pds_val _).nl d4
    have t5 := tc.md m5
    clear m5 b5 e4 d4 tc p4 s4'
    refine ⟨_, _, rfl, rfl, _, rfl, by omega, by omega, fun L nL => ?_⟩
    have hpL : p ≠ L := fun z => by
      obtain ⟨_, _, e, _⟩ := p5
      rw [z, nL] at e
      cases e
    have hcL : pc ≠ L := fun z => by rw [z, nL] at e5; cases e5
    have sL : Same H5 (upd H5 L (.lst [])) := same_upd nL
    have nLi : Hi L = none := free_md (S := []) (.of s5) al_nil nL
    refine lc_it walk_range (fun i H' => ∃ ws xs, Md [L, p] (upd H5 L (.lst [])) H' ∧ Pool H' p ∧ H' L = some (.lst ws) ∧ DpAll K H' ws (xs.map valD) ∧ (∀ x ∈ xs, Vl x) ∧ xs.length = i) ⟨[], [], .refl _ _, p5.same sL, upd_same, .nil, fun x hx => (by cases hx), rfl⟩ (fun _ _ _ _ => trivial) ?_ ?_
    · rintro i v H' H'' hi ⟨us', xs, m, pp, eL, dd, vv, ll⟩ ⟨rfl, rfl⟩
      refine ⟨rfl, tYes_of ⟨_, rfl, p, rfl, pp, fun q x H3 nq m3 p3 e3 vx => ?_⟩⟩
      have eL3 := m3.out _ _ eL (by simp [Ne.symm hpL])
      have lus : us'.length = xs.length := dp_len dd
      have mu : Md [L, p] H3 (upd H3 L (.lst (us' ++ [.ref q]))) := Md.upd eL3 rfl (by simp)
      refine ⟨_, eL3, big (by omega), us' ++ [.ref q], xs ++ [x], m.trans ((m3.mono (by simp)).trans mu), p3.md (S := [L]) (Md.upd eL3 rfl (by simp)) (by simp [hpL]), upd_same, ?_, ?_, by rw [List.length_append, ll]; rfl⟩
      · rw [List.map_append]
        exact DpAll.snoc (mu.dp (Pd.valD x).nl (.tup (SqT.of e3) (.cons (.int _) (.cons (.int _) .nil)))) (mu.dpAll (pds_val _).nl (m3.dpAll (pds_val _).nl dd))
      · exact fun y hy => (List.mem_append.mp hy).elim (vv y) fun z => by rw [List.mem_singleton.mp z]; exact vx
    rintro H6 ⟨ws, xs, m6, p6, eL6, d6, v6, l6⟩
    have m6' : Md [p] H5 H6 := m6.new sL nL
    have S6 : Sit K Hi H6 p pc L us ws cs xs := ⟨same_md s5 m6' (by simp [np]), np, nLi, p6, m6'.out _ _ e5 (by simp [Ne.symm hpc]), eL6, m6'.dpAll (pds_val _).nl d5, d6, t5.md m6', vc, v6, srt, lc, by omega, hpc, hpL, hcL⟩
    have l6' : xs.length ≤ 7 := by omega
    clear m6 m6' p6 eL6 d6 v6 l6 sL nLi hpL hcL nL t5 d5 e5 s5 p5 n0 n1 vc srt lc hpc
    -- one of the constants
    refine ⟨fun σ' H' => ∃ o4 p5 ws xs, σ' = [some (.ref a), some (nv k), some (.ref p), some (.ref pc), o4, some (.ref p5), o6, o7, o8, o9, o10, o11, o12, o13, o14, o15] ∧ Sit K Hi H' p pc p5 us ws cs xs ∧ xs.length ≤ 8, ?_, ?_⟩
    · refine ⟨_, rfl, (by show 0 ≤ sizeLine; decide), fun e ne => ?_⟩
      generalize eH7 : upd H6 e _ = H7
      have s7 : Same H6 H7 := eH7 ▸ same_upd ne
      have e7 : H7 e = some _ := eH7 ▸ upd_same
      have S7 := S6.same s7
      refine ⟨.list (cs.map valD), .list [], .lst (SqL.of S7.c) S7.dc, .lst (SqL.of e7) .nil, Pds.shaped (pds_val _), rfl, _, rfl, ?_⟩
      by_cases hcs : cs = []
      · refine if_neg_of (by rw [hcs]; rfl) (iteF ?_)
        exact ⟨_, _, _, _, rfl, S7, by omega⟩
      · have hpos : 0 < cs.length := List.length_pos_iff.mpr hcs
        have lus : us.length = cs.length := dp_len S7.dc
        refine if_pos_of (by cases cs with | nil => exact absurd rfl hcs | cons x l => rfl) ?_
        refine ⟨_, rfl, p, 2, rfl, by decide, by decide, S7.pool, fun n H8 n0 n1 p8 b8 => ⟨rfl, _, rfl, ?_⟩⟩
        have S8 := S7.md (S7.pool.mdB b8) p8
        by_cases c1 : n = 1
        · refine if_pos_of (by rw [c1]; rfl) ?_
          refine ⟨_, rfl, .inl ⟨rfl, _, SqL.of S8.v⟩, _, rfl, _, rfl, _, rfl, _, _, rfl, .inl (SqL.of S8.c), p, _, rfl, (by omega), (by have := S8.lc; omega), S8.pool, fun d H9 d0 d1 p9 b9 => ?_⟩
          have S9 := S8.md (S8.pool.mdB b9) p9
          obtain ⟨j, rfl⟩ := Int.eq_ofNat_of_zero_le d0
          have hj : j < cs.length := by omega
          obtain ⟨u, hu, du⟩ := dp_at S9.dc (mapAt (f := valD) (List.getElem?_eq_getElem hj))
          refine ⟨pc, us, j, u, rfl, rfl, SqL.of S9.c, atI_nat hu, ?_⟩
          have lws : ws.length = xs.length := dp_len S9.dv
          have mu : Md [L] H9 (upd H9 L (.lst (ws ++ [u]))) := Md.upd S9.v rfl (by simp)
          refine ⟨L, ws, u, rfl, rfl, S9.v, big (by omega), ?_⟩
          have hx9 := S9.lx
          refine ⟨_, _, _, _, rfl, ⟨same_md S9.s mu (by simp [S9.n5i]), S9.np, S9.n5i, S9.pool.md mu (by simp [S9.n5]), mu.out _ _ S9.c (by simp [S9.n35]), upd_same, mu.dpAll (pds_val _).nl S9.dc, (show DpAll K _ _ ((xs ++ [cs[j]]).map valD) by rw [List.map_append]; exact DpAll.snoc (mu.dp (Pd.valD _).nl du) (mu.dpAll (pds_val _).nl S9.dv)), S9.tc.md mu, S9.vc, fun y hy => (List.mem_append.mp hy).elim (S9.vx y) fun z => by rw [List.mem_singleton.mp z]; exact S9.vc _ (List.getElem_mem hj), S9.srt, S9.lc, (by rw [List.length_append, List.length_singleton]; omega), S9.n3, S9.n5, S9.n35⟩, (by rw [List.length_append, List.length_singleton]; omega)⟩
        · refine if_neg_of (decide_eq_false fun z => c1 (V.int.inj z)) ?_
          exact ⟨_, _, _, _, rfl, S8, by omega⟩
    rintro σ H7 ⟨o4', p5, ws', xs', rfl, S7, l7⟩
    clear S6
    refine ⟨fun σ' H' => ∃ o4 p5 ws xs, σ' = [some (.ref a), some (nv k), some (.ref p), some (.ref pc), o4, some (.ref p5), o6, o7, o8, o9, o10, o11, o12, o13, o14, o15] ∧ Sit K Hi H' p pc p5 us ws cs xs ∧ xs.length ≤ 9, ?_, ?_⟩
    · refine ⟨_, rfl, p, 2, rfl, by decide, by decide, S7.pool, fun n H8 n0 n1 p8 b8 => ⟨rfl, _, rfl, ?_⟩⟩
      have S8 := S7.md (S7.pool.mdB b8) p8
      by_cases c1 : n = 1
      · refine if_pos_of (by rw [c1]; rfl) ?_
        have hcut : cutV ws' none (some (1 : Int)) = ws'.take 1 := cut_to ws' 1
        refine ⟨_, rfl, _, rfl, ?_⟩
        refine Exists.intro (1 : Int) ⟨rfl, p5, ws', rfl, SqL.of S8.v, fun l nl => ?_⟩
        rw [hcut]
        generalize eH9 : upd H8 l _ = H9
        have s9 : Same H8 H9 := eH9 ▸ same_upd nl
        have e9 : H9 l = some _ := eH9 ▸ upd_same
        have S9 := S8.same s9
        have lws : ws'.length = xs'.length := dp_len S9.dv
        have hx9 := S9.lx
        refine ⟨p5, l, _, _, rfl, rfl, S9.v, e9, bigl (by rw [List.length_take]; omega), fun p6 n6 => ?_⟩
        generalize eHA : upd H9 p6 _ = HA
        have sA : Same H9 HA := eHA ▸ same_upd n6
        have eA : HA p6 = some _ := eHA ▸ upd_same
        have SA := S9.same sA
        have a1 : p ≠ p6 := fun z => by
          obtain ⟨_, _, e, _⟩ := S9.pool
          rw [z, n6] at e
          cases e
        have a2 : pc ≠ p6 := fun z => by
          have e := S9.c
          rw [z, n6] at e
          cases e
        have n6i : Hi p6 = none := free_md (S := []) (.of S9.s) al_nil n6
        refine ⟨_, p6, ws' ++ ws'.take 1, xs' ++ xs'.take 1, rfl, ⟨SA.s, SA.np, n6i, SA.pool, SA.c, eA, SA.dc, ?_, SA.tc, SA.vc, fun y hy => (List.mem_append.mp hy).elim (SA.vx y) fun z => SA.vx y (List.mem_of_mem_take z), SA.srt, SA.lc, ?_, SA.n3, a1, a2⟩, ?_⟩
        · rw [List.map_append, List.map_take]
          exact DpAll.app SA.dv (dp_td 1 SA.dv).1
        · rw [List.length_append, List.length_take]
          omega
        · rw [List.length_append, List.length_take]
          omega
      · refine if_neg_of (decide_eq_false fun z => c1 (V.int.inj z)) ?_
        exact ⟨_, _, _, _, rfl, S8, by omega⟩
    clear S7 l7 xs' ws' p5 l6' ws xs L o4'
    rintro σ H8 ⟨o4', p5, ws, xs, rfl, S8, l8⟩
    have hlc := S8.lc
    have hlx := S8.lx
    have lus : us.length = cs.length := dp_len S8.dc
    have lws : ws.length = xs.length := dp_len S8.dv
    have lowc : ∀ x ∈ cs, Low x.1 x.2 := fun x hx => (S8.vc x hx).low
    have lowx : ∀ x ∈ xs, Low x.1 x.2 := fun x hx => (S8.vx x hx).low
    have hall : ∀ x ∈ cs ++ xs, Vl x := fun x h => (List.mem_append.mp h).elim (S8.vc x) (S8.vx x)
    have low : ∀ x ∈ cs ++ xs, Low x.1 x.2 := fun x h => (hall x h).low
    -- the due ranks
    refine ⟨_, rfl, _, rfl, pc, p5, us, ws, rfl, rfl, S8.c, S8.v, bigl (by omega), fun l nl => ?_⟩
    generalize eH9 : upd H8 l _ = H9
    have s9 : Same H8 H9 := eH9 ▸ same_upd nl
    have e9 : H9 l = some _ := eH9 ▸ upd_same
    have S9 := S8.same s9
    have d9 : DpAll K H9 (us ++ ws) ((cs ++ xs).map valD) := by
      rw [List.map_append]
      exact DpAll.app S9.dc S9.dv
    refine ⟨l, us ++ ws, cs ++ xs, rfl, SqL.of e9, d9, fun x hx => ⟨low x hx, vl_bw (hall x hx)⟩, by rw [List.length_append]; omega, fun pd HA sA eA => ?_⟩
    have SA := S9.same sA
    clear S9 d9 e9
    have hdue := isSh_due lowc lowx S8.srt
    have lrk : (rk (cs ++ xs)).length = cs.length + xs.length := by rw [rk_len, List.length_append]
    refine ⟨_, rfl, p5, ws, rfl, .inl (SqL.of SA.v), fun l1 n1 => ?_⟩
    generalize eHB : upd HA l1 _ = HB
    have sB : Same HA HB := eHB ▸ same_upd n1
    have eB : HB l1 = some _ := eHB ▸ upd_same
    have SB := SA.same sB
    refine ⟨_, rfl, pc, us, rfl, .inl (SqL.of SB.c), fun l2 n2 => ?_⟩
    generalize eHC : upd HB l2 _ = HC
    have sC : Same HB HC := eHC ▸ same_upd n2
    have eC : HC l2 = some _ := eHC ▸ upd_same
    refine ⟨(by show 2 ≤ sizeLine; decide), fun h nh => ?_⟩
    generalize eHD : upd HC h _ = HD
    have sD : Same HC HD := eHD ▸ same_upd nh
    have eD : HD h = some _ := eHD ▸ upd_same
    have SD := SB.same (sC.trans sD)
    have eB := (sC.trans sD) _ _ eB
    have eC := sD _ _ eC
    have eA := (sB.trans (sC.trans sD)) _ _ eA
    clear SA SB sB sC sD sA s9
    refine ⟨_, rfl, h, _, 0, _, rfl, rfl, SqL.of eD, atI_nat (j := 0) rfl, _, rfl, h, _, 1, _, rfl, rfl, SqL.of eD, atI_nat (j := 1) rfl, l1, l2, ws, us, xs, cs, rfl, SqL.of eB, SD.dv, SqL.of eC, SD.dc, SD.vx, SD.vc, by omega, by omega, fun ps HE sE eE => ?_⟩
    have SE := SD.same sE
    have eD := sE _ _ eD
    have eB := sE _ _ eB
    have eC := sE _ _ eC
    have eA := sE _ _ eA
    clear SD sE
    generalize hrk : rk (cs ++ xs) = rs at eE eA hdue lrk
    refine ⟨_, rfl, _, _, _, _, _, rfl, .ty _, SqT.ty (SqT.of eE), kit_ty (kit_k .tup .tup), _, rfl, iteF ?_⟩
    refine ⟨_, rfl, _, rfl, .tuple (rs.map PyData.int), .tuple (rs.map PyData.int), .tup (SqT.of eE) (dpI _), .tup (SqT.of eA) (dpI _), pd_ints_sh, pd_ints_sh, _, rfl, if_neg_of (by rw [pd_ints_eqv, decide_eq_true rfl]; rfl) ?_⟩
    refine ⟨_, rfl, _, rfl, _, rfl, (by show 2 ≤ sizeLine; decide), fun h2 nh2 => ?_⟩
    generalize eHF : upd HE h2 _ = HF
    have sF : Same HE HF := eHF ▸ same_upd nh2
    have eF : HF h2 = some _ := eHF ▸ upd_same
    have SF := SE.same sF
    have eD := sF _ _ eD
    have eB := sF _ _ eB
    have eC := sF _ _ eC
    have eA := sF _ _ eA
    have eE := sF _ _ eE
    refine ⟨.list [.list (xs.map valD), .list (cs.map valD)], .list [.list (xs.map valD), .list (cs.map valD)], .lst (SqL.of eD) (.cons (.lst (SqL.of eB) SF.dv) (.cons (.lst (SqL.of eC) SF.dc) .nil)), .lst (SqL.of eF) (.cons (.lst (SqL.of SF.v) SF.dv) (.cons (.lst (SqL.of SF.c) SF.dc) .nil)), (pd_two xs cs).1, (pd_two xs cs).1, _, rfl, if_neg_of (by rw [(pd_two xs cs).2]; rfl) ?_⟩
    clear SE eD eB eC eF sF
    -- whole ranks
    refine ⟨_, rfl, ps, rfl, ⟨_, SqT.of eE⟩, fun R nR => ?_⟩
    have eR : upd HF R (.lst []) ps = some (.tup (rs.map V.int)) := same_upd nR _ _ eE
    refine lc_it (walk_tup (xs := rs.map V.int)) (fun i H' => H' = upd HF R (.lst [])) rfl (fun i H' _ e => by rw [e]; exact SqT.of eR) ?_ ?_
    · rintro i v H' H'' hi e ⟨rfl, hv⟩
      obtain ⟨r, _, rfl⟩ := getM hv
      refine ⟨rfl, ?_⟩
      refine ⟨_, rfl, _, _, _, _, _, rfl, .ty _, Dp.ty (.int r), kit_d K .int (.int r), _, rfl, iteF ?_⟩
      refine ⟨_, rfl, _, _, _, _, _, rfl, .ty _, Dp.ty (.int r), kit_d K .bl (.int r), _, rfl, iteF ?_⟩
      exact e
    rintro HG0 rfl
    have sG : Same HF (upd HF R (.lst [])) := same_upd nR
    have RG : upd HF R (.lst []) R = some (.lst []) := upd_same
    generalize upd HF R (.lst []) = HG at sG RG
    refine ⟨(by show 0 ≤ sizeLine; decide), fun e ne => ?_⟩
    generalize eHH : upd HG e _ = HH
    have sH : Same HG HH := eHH ▸ same_upd ne
    have eH : HH e = some _ := eHH ▸ upd_same
    refine ⟨.list [], .list [], .lst (SqL.of (sH _ _ RG)) .nil, .lst (SqL.of eH) .nil, rfl, rfl, _, rfl, iteF ?_⟩
    have SH := SF.same (sG.trans sH)
    have eA := (sG.trans sH) _ _ eA
    have eE := (sG.trans sH) _ _ eE
    clear SF sG sH RG eH eR nR ne
    -- the places
    have hlen : (rs.map V.int).length = cs.length + xs.length := by rw [List.length_map, lrk]
    refine ⟨_, rfl, p, 5, rfl, by decide, by decide, SH.pool, fun n HI n0 n1 pI bI => ?_⟩
    have mI := SH.pool.mdB bI
    have SI := SH.md mI pI
    have eA := mI.rig _ _ eA rfl
    have eE := mI.rig _ _ eE rfl
    clear SH mI bI pI
    refine ⟨_, _, rfl, rfl, _, rfl, by omega, by omega, fun L nL => ?_⟩
    have hpL : p ≠ L := fun z => by
      obtain ⟨_, _, e, _⟩ := SI.pool
      rw [z, nL] at e
      cases e
    have sL : Same HI (upd HI L (.lst [])) := same_upd nL
    refine lc_it walk_range (fun i H' => ∃ qs : List Nat, Md [L, p] (upd HI L (.lst [])) H' ∧ Pool H' p ∧ H' L = some (.lst (qs.map nv)) ∧ (∀ x ∈ qs, x < rs.length) ∧ qs.length = i) ⟨[], .refl _ _, SI.pool.same sL, upd_same, fun x hx => (by cases hx), rfl⟩ (fun _ _ _ _ => trivial) ?_ ?_
    · rintro i v H' H'' hi ⟨qs, m, pp, eL, vv, ll⟩ ⟨rfl, rfl⟩
      refine ⟨rfl, tYes_of ⟨_, rfl, _, rfl, pd, _, rfl, .inr (SqT.of (m.rig _ _ (sL _ _ eA) rfl)), p, _, rfl, by omega, by omega, pp, fun d H3 d0 d1 p3 b3 => ?_⟩⟩
      obtain ⟨j, rfl⟩ := Int.eq_ofNat_of_zero_le d0
      have m3 := pp.mdB b3
      have eL3 := m3.out _ _ eL (by simp [Ne.symm hpL])
      have mu : Md [L, p] H3 (upd H3 L (.lst (qs.map nv ++ [nv j]))) := Md.upd eL3 rfl (by simp)
      refine ⟨_, eL3, big (by rw [List.length_map]; omega), qs ++ [j], m.trans ((m3.mono (by simp)).trans mu), p3.md (S := [L]) (Md.upd eL3 rfl (by simp)) (by simp [hpL]), ?_, fun y hy => (List.mem_append.mp hy).elim (vv y) fun z => by rw [List.mem_singleton.mp z]; omega, by rw [List.length_append, ll]; rfl⟩
      rw [upd_same, List.map_append]
      rfl
    rintro HJ ⟨qs, mJ, pJ, eL, hqs, lq⟩
    have mJ' : Md [p] HI HJ := mJ.new sL nL
    have SJ := SI.md mJ' pJ
    have eA := mJ'.rig _ _ eA rfl
    have eE := mJ'.rig _ _ eE rfl
    have lq : qs.length ≤ 5 := by omega
    clear mJ mJ' SI sL nL pJ n0 n1
    -- everything
    refine ⟨_, rfl, _, rfl, pc, p5, us, ws, rfl, rfl, SJ.c, SJ.v, bigl (by omega), fun ev nev => ?_⟩
    generalize eHK : upd HJ ev _ = HK
    have sK : Same HJ HK := eHK ▸ same_upd nev
    have eV : HK ev = some _ := eHK ▸ upd_same
    refine ⟨_, rfl, _, rfl, L, _, rfl, .inl (SqL.of (sK _ _ eL)), fun l3 n3 => ?_⟩
    generalize eHL : upd HK l3 _ = HL
    have sL : Same HK HL := eHL ▸ same_upd n3
    have e3 : HL l3 = some _ := eHL ▸ upd_same
    have eE := (sK.trans sL) _ _ eE
    refine ⟨ps, l3, rs, qs, rfl, SqT.of eE, SqL.of e3, hqs, by omega, fun pk ks HM sM eM lk covk ordk => ?_⟩
    have s0M := sK.trans (sL.trans sM)
    have SM := SJ.same s0M
    have eL := s0M _ _ eL
    have eA := s0M _ _ eA
    have eV := (sL.trans sM) _ _ eV
    clear SJ s0M sK sL sM e3
    have dM : DpAll K HM (us ++ ws) ((cs ++ xs).map valD) := by
      rw [List.map_append]
      exact DpAll.app SM.dc SM.dv
    have hpick : rk (qs.filterMap fun p => (cs ++ xs)[p]?) = ks := pick_rk low (fun p hp => by rw [List.length_append, ← lrk]; exact hqs p hp) lk (by rw [hrk]; exact ordk) covk
    refine ⟨_, rfl, L, rfl, ⟨_, SqL.of eL⟩, fun R nR => ?_⟩
    refine lc_it (walk_list (xs := qs.map nv)) (fun i H' => Same HM H' ∧ ∃ us', H' R = some (.lst us') ∧ DpAll K H' us' (((qs.take i).filterMap fun p => (cs ++ xs)[p]?).map valD)) ⟨same_upd nR, [], upd_same, .nil⟩ (fun i H' _ e => SqL.of (e.1 _ _ eL)) ?_ ?_
    · rintro i xv H' H'' hi ⟨s8, us', h8, d8⟩ ⟨rfl, hv⟩
      obtain ⟨j, hj, rfl⟩ := getM hv
      have hjl := hqs j (List.mem_of_getElem? hj)
      obtain ⟨y, hy⟩ : ∃ y, (cs ++ xs)[j]? = some y := ⟨_, List.getElem?_eq_getElem (by rw [List.length_append]; omega)⟩
      obtain ⟨u, hu, du⟩ := dp_at dM (mapAt (f := valD) hy)
      have lus' := dp_len d8
      have hi : i < qs.length := by rw [List.length_map] at hi; exact hi
      refine ⟨rfl, tYes_of ⟨_, rfl, _, rfl, ev, us ++ ws, j, u, rfl, rfl, SqL.of (s8 _ _ eV), atI_nat hu, _, h8, ?_, same_upN s8 nR, _, upd_same, ?_⟩⟩
      · rw [lus']
        refine big (Nat.le_trans (List.length_filterMap_le _ _) ?_)
        rw [List.length_take]
        omega
      · have m1 : Md [R] H'' (upd H'' R (.lst (us' ++ [u]))) := Md.upd h8 rfl (by simp)
        rw [tk1 hj, List.filterMap_append, List.map_append, List.filterMap_cons, hy]
        exact DpAll.snoc (m1.dp (Pd.valD _).nl (Dp.same s8 du)) (m1.dpAll (pds_val _).nl d8)
    rintro HN ⟨sN, us', eN, dN⟩
    rw [List.length_map, List.take_length] at dN
    have lpk := List.length_filterMap_le (fun p => (cs ++ xs)[p]?) qs
    refine ⟨R, us', _, rfl, SqL.of eN, dN, fun x hx => ?_, by omega, fun pr HO' sO eO => ?_⟩
    · obtain ⟨j, _, hj⟩ := List.mem_filterMap.mp hx
      have hx := List.mem_of_getElem? hj
      exact ⟨low x hx, vl_bw (hall x hx)⟩
    rw [hpick] at eO
    have s1 := sN.trans sO
    refine ⟨.tuple (ks.map PyData.int), .tuple (ks.map PyData.int), .tup (SqT.of (s1 _ _ eM)) (dpI _), .tup (SqT.of eO) (dpI _), pd_ints_sh, pd_ints_sh, _, rfl, if_neg_of (by rw [pd_ints_eqv, decide_eq_true rfl]; rfl) ?_⟩
    have SO := SM.same s1
    have eA := s1 _ _ eA
    clear SM sN sO s1 eM eO dN eN dM eV eL nR hpick lpk ordk covk lk lq hqs eE
    -- the bent ranks
    refine ⟨_, rfl, _, rfl, pd, _, rfl, .inr (SqT.of eA), p, _, rfl, by omega, by omega, SO.pool, fun d HP d0 d1 pP bP => ?_⟩
    obtain ⟨j, rfl⟩ := Int.eq_ofNat_of_zero_le d0
    have mP := SO.pool.mdB bP
    have SP := SO.md mP pP
    have eA := mP.rig _ _ eA rfl
    have hj : j < rs.length := by omega
    clear SO mP bP pP d0 d1
    obtain ⟨r, hr2⟩ : ∃ r, rs[j]? = some r := ⟨_, List.getElem?_eq_getElem hj⟩
    refine ⟨_, rfl, ?_⟩
    refine Exists.intro _ ⟨rfl, (j : Int), rfl, ?_⟩
    refine slA_to (SqT.of eA) fun t1 HQ sQ hT1 => ?_
    have SQ := SP.same sQ
    have eA := sQ _ _ eA
    refine ⟨_, rfl, _, rfl, pd, _, j, _, rfl, rfl, SqT.of eA, atI_nat (mapAt (f := V.int) hr2), ?_⟩
    refine ⟨_, rfl, (by show 4 ≤ sizeLine; decide), fun f nf => ?_⟩
    generalize eHR : upd HQ f _ = HR
    have sR : Same HQ HR := eHR ▸ same_upd nf
    have eR : HR f = some _ := eHR ▸ upd_same
    have SR := SQ.same sR
    have eA := sR _ _ eA
    have hT1 := Same.seqT sR hT1
    refine ⟨_, rfl, p, 4, rfl, by decide, by decide, SR.pool, fun n HS n0 n1 pS bS => ?_⟩
    have mS := SR.pool.mdB bS
    have hfp : f ≠ p := fun z => by
      obtain ⟨_, _, e, _⟩ := SQ.pool
      rw [← z, nf] at e
      cases e
    have eR := mS.out _ _ eR (by simp [hfp])
    have SS := SR.md mS pS
    have eA := mS.rig _ _ eA rfl
    have hT1 := mS.sqT hT1
    obtain ⟨dl, hdl⟩ : ∃ dl : Int, atI [V.int 1, V.int (-1), V.int 2, V.int 30] n = some (.int dl) := by
      have hk : n = 0 ∨ n = 1 ∨ n = 2 ∨ n = 3 := by omega
      rcases hk with e | e | e | e
      · subst e; exact ⟨1, atI_nat (j := 0) rfl⟩
      · subst e; exact ⟨-1, atI_nat (j := 1) rfl⟩
      · subst e; exact ⟨2, atI_nat (j := 2) rfl⟩
      · subst e; exact ⟨30, atI_nat (j := 3) rfl⟩
    clear SR SQ mS bS pS sR sQ
    refine ⟨_, _, _, _, rfl, rfl, SqL.of eR, hdl, ?_⟩
    refine ⟨_, _, rfl, rfl, ?_⟩
    refine ⟨(by show 1 ≤ sizeLine; decide), fun t nt => ?_⟩
    generalize eHT : upd HS t _ = HT
    have sT : Same HS HT := eHT ▸ same_upd nt
    have eT : HT t = some _ := eHT ▸ upd_same
    refine catA_of (Same.seqT sT hT1) (SqT.of eT) (bigl (by rw [List.length_take]; simp; omega)) fun t2 HU sU hT2 => ?_
    have sTU := sT.trans sU
    have SU := SS.same sTU
    have eA := sTU _ _ eA
    clear SS sT sU sTU hT1 eT
    refine ⟨_, rfl, ?_⟩
    refine Exists.intro _ ⟨rfl, _, _, rfl, rfl, ((j + 1 : Nat) : Int), rfl, ?_⟩
    delta tNoPart
    refine slA_from (SqT.of eA) fun t3 HV sV hT3 => ?_
    refine catA_of (Same.seqT sV hT2) hT3 (bigl (by simp; omega)) fun be HW sW hB => ?_
    have sVW := sV.trans sW
    have SW := SU.same sVW
    have eA := sVW _ _ eA
    obtain ⟨rs', hrs', lrs'⟩ : ∃ rs' : List Int, (rs.map V.int).take j ++ [V.int (r + dl)] ++ (rs.map V.int).drop (j + 1) = rs'.map V.int ∧ rs'.length = rs.length := by
      refine ⟨rs.take j ++ [r + dl] ++ rs.drop (j + 1), by rw [List.map_append, List.map_append, List.map_take, List.map_drop]; rfl, ?_⟩
      simp
      omega
    rw [hrs'] at hB
    clear SU sVW sV sW hT2 hT3
    -- the shapes
    have hsh' : ShIn K HW be pc us rs' cs := ⟨hB, SqL.of SW.c, SW.dc, SW.tc, SW.vc, SW.srt, by omega, by omega⟩
    have hsh : ShIn K HW pd pc us rs cs := ⟨SqT.of eA, SqL.of SW.c, SW.dc, SW.tc, SW.vc, SW.srt, by omega, by omega⟩
    have s0 := SW.s
    clear SW hB eA
    refine ⟨_, rfl, _, _, rfl, .inl hsh.c, ?_⟩
    rw [lus]
    refine ⟨_, rfl, _, rfl, be, rs', cs.length, rfl, hsh'.t, by omega, by omega, fun b HX hb sX => ?_⟩
    refine ⟨_, rfl, _, rfl, pd, rs, cs.length, rfl, .inr ⟨(hsh.same sX).t, by omega, by omega, fun b1 HY hb1 sY => ?_⟩⟩
    have hb1 : b1 = true := hb1.mpr hdue
    subst hb1
    have sXY := sX.trans sY
    refine ⟨_, rfl, _, rfl, be, rs', cs.length, rfl, .inr ⟨(hsh'.same sXY).t, by omega, by omega, fun b2 HZ hb2 sZ => ?_⟩⟩
    have hb2 : b2 = b := by rw [Bool.eq_iff_iff, hb2, hb]
    subst hb2
    have sXZ := sXY.trans sZ
    refine ⟨_, rfl, pd, _, rfl, .inr (hsh.same sXZ).t, fun l6 n6 => ?_⟩
    generalize eH10 : upd HZ l6 _ = H10
    have s10 : Same HZ H10 := eH10 ▸ same_upd n6
    have e10 : H10 l6 = some _ := eH10 ▸ upd_same
    refine ⟨_, rfl, l6, rs, cs.length, rfl, .inl ⟨SqL.of e10, ?_⟩⟩
    refine ⟨(by show 3 ≤ sizeLine; decide), fun m1 nm1 => ?_⟩
    generalize eH11 : upd H10 m1 _ = H11
    have s11 : Same H10 H11 := eH11 ▸ same_upd nm1
    have e11 : H11 m1 = some _ := eH11 ▸ upd_same
    refine ⟨_, rfl, (by show 3 ≤ sizeLine; decide), fun m2 nm2 => ?_⟩
    generalize eH12 : upd H11 m2 _ = H12
    have s12 : Same H11 H12 := eH12 ▸ same_upd nm2
    have e12 : H12 m2 = some _ := eH12 ▸ upd_same
    refine ⟨.list [.bool true, .bool b2, .bool false], .list [.bool true, .bool b2, .bool false], .lst (SqL.of (s12 _ _ e11)) (.cons (.bl _) (.cons (.bl _) (.cons (.bl _) .nil))), .lst (SqL.of e12) (.cons (.bl _) (.cons (.bl _) (.cons (.bl _) .nil))), (by cases b2 <;> decide +kernel), (by cases b2 <;> decide +kernel), _, rfl, if_neg_of (by cases b2 <;> decide +kernel) ?_⟩
    have s13 := sXZ.trans (s10.trans (s11.trans s12))
    have hsh := hsh.same s13
    have hsh' := hsh'.same s13
    have s0 := s0.trans s13
    clear s13 sXZ sXY sX sY sZ s10 s11 s12 e10 e11 e12 hb2
    refine ⟨_, rfl, _, rfl, pd, pc, us, rs, cs, rfl, hsh, hdue, fun H14 s14 => ⟨_, rfl, iteF ?_⟩⟩
    have hsh' := hsh'.same s14
    have s0 := s0.trans s14
    cases b2 with
    | true =>
      refine ⟨_, rfl, _, rfl, iteT ?_⟩
      refine ⟨_, rfl, _, rfl, be, pc, us, rs', cs, rfl, hsh', hb.mp rfl, fun H15 s15 => ⟨_, rfl, iteF ?_⟩⟩
      refine ⟨_, rfl, _, rfl, iteF (iteF ?_)⟩
      exact ⟨⟨_, _, _, _, _, _, _, _, _, _, _, _, _, _, _, rfl⟩, si.trans (s0.trans s15)⟩
    | false =>
      refine ⟨_, rfl, _, rfl, iteF (iteF ?_)⟩
      refine ⟨_, rfl, _, rfl, iteT ?_⟩
      refine ⟨_, rfl, _, rfl, be, pc, us, rs', cs, rfl, hsh', fun z => (by cases hb.mpr z), fun H15 s15 => ⟨_, rfl, iteF ?_⟩⟩
      exact ⟨⟨_, _, _, _, _, _, _, _, _, _, _, _, _, _, _, rfl⟩, si.trans (s0.trans s15)⟩
end
end K23
namespace K23
open PySem PySem.Spec PyProof.Rows L2 He TL EL
theorem facts {P : Program} {w : World} {K : PySem.W.Frag} {mg : Str → Option Value} {f : Addr} (hP : PF P "/claim/cut.py") (T : Txt K mg) (hfa : mg ("law" : Str) = some (.ref f)) :
    ∃ fd : FuncData, (∀ (s : Shared) (v : Value), BindsTo s fd ⟨[v], []⟩ [("_law_script", v)]) ∧ ∀ base : Heap, FnOk P w K mg base CX0 10 f fd ["_law_script"] (spLaw K) := by
  obtain ⟨fd, F⟩ := T.f_law
  have e := hfa.symm.trans T.g_law
  cases e
  have b := FunD.bindsA (ps := ["_law_script"]) F (fun _ _ _ _ _ _ us hl => match us, hl with | [_], _ => rfl)
  exact ⟨fd, fun s v => b s [v] rfl, fun base => ok_law hP T F⟩
end K23
open PySem PySem.W PySem.Calls PyProof.Rows
set_option maxHeartbeats 0 in
theorem PySem.Challenge.cw_endlessasks_k23_shapes_of_values_holds : PySem.Challenge.rw_endlessasks_k23_shapes_of_values.Holds := by
  w_on; o_law
  refine HandSHeadRun.head_any (r := OpenLaw.row PySem.Challenge.rw_endlessasks_k23_shapes_of_values) (q := view (OpenLaw.row PySem.Challenge.rw_endlessasks_k23_shapes_of_values).prog [37]) (H := K23.hk) (ob := K23.ob) (M := 8000) (loose := K23.loose) (d := HandSHeadRun.topDef (OpenLaw.row PySem.Challenge.rw_endlessasks_k23_shapes_of_values).prog 37) (kwd := []) K23.ob_eq
    (by kernel_rfl) (fun s => by kernel_rfl) K23.run (by kernel_rfl) (by kernel_rfl) (by kernel_rfl) (by rfl) (by first | assumption | decide +kernel) (by decide +kernel) ⟨rfl, rfl, rfl, rfl, rfl, by decide +kernel⟩ ?hw ?hc
  case hw => w_witness2
  case hc =>
    refine L2.walk_ofE (l := PySem.Challenge.rw_endlessasks_k23_shapes_of_values) (n := 63) (k := 10) (x := "_law_script") (CX := L2.CX0) rfl (by decide) (by kernel_rfl) ⟨rfl, by decide, by decide⟩ ?F (fun _ _ _ _ z => z)
    intro w mg fa h Y G hmg0
    obtain ⟨K, KX, c⟩ := Y
    have hmg : mg ("law" : PySem.Str) = some (.ref fa) := by
      have e : (HandSHeadRun.topDef (OpenLaw.row PySem.Challenge.rw_endlessasks_k23_shapes_of_values).prog 37).name = ("law" : PySem.Str) := by kernel_rfl
      rw [← e]
      exact hmg0
    obtain ⟨fd, hb, hF⟩ := K23.facts (P := (PySem.Challenge.rw_endlessasks_k23_shapes_of_values).prog) (w := w) ⟨by kernel_rfl, by kernel_rfl⟩ (K23.txt_of KX G c) hmg
    exact ⟨K, fd, K23.spLaw K, KX, hb, fun H a ns hl _ hS => ⟨a, ns, rfl, hS, hl, fun _ => rfl⟩, fun base _ _ => hF base⟩
