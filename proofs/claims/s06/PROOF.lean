import PyProof.Rows.All
import Wide.All
import OpenK.AllK
import Wide.FinOn
import KE.KStateDown
import Open.SpecLaws
import KE.OsGo
import KE.OsHead
import KE.SortData
import Lean
import HandS.ForSpec
import HandS.TryMany
import HandS.Comp
import HandS.Iter
import HandS.Evl
import HandS.Steps
import HandS.Deep
import HandS.More
import HandS.ClsMeth
import HandS.CallSlots
import HandS.Defaults
import HandS.Head0
import HandS.Head1
import HandS.Head2
import HandS.Head3
import HandS.Head4
import HandS.HeadHook1
import HandS.HeadHook2
import HandS.HeadHook3
import PySem.Challenge.RW_bookagain_s06_sound
set_option Elab.async false
set_option autoImplicit false
set_option linter.all false
set_option maxRecDepth 100000
set_option maxHeartbeats 4000000
namespace BA
open PySem PySem.Spec PyProof.Rows L2 Evl
open PySem.W (Codec)
/-! ## R1: the defs of the text, bundled; data; results -/
section
variable (P : Program) (w : World) (K : PySem.W.Frag) (mg : Str → Option Value) (base : Heap)
/-- the def x of the module keeps sp -/
structure GD (CX : CXT) (k : Nat) (x : Str) (ps : List Str) (sp : Sp) : Prop where
  ex : ∃ f fd, FnOk P w K mg base CX k f fd ps sp ∧ mg x = some (.ref f) ∧ PySem.W.keepIn K (.ref f) = true ∧ Binds K fd ps []
/-- the method m of the class at C keeps sp -/
structure MD (CX : CXT) (k : Nat) (C : Addr) (m : Str) (ps : List Str) (sp : Sp) : Prop where
  ex : ∃ f fd, FnOk P w K mg base CX k f fd ps sp ∧ Cls K C ∧ Meth K C m f ∧ Binds K fd ps []
/-- the class x, by its __init__ -/
structure ND (k : Nat) (x : Str) (C : Addr) (ps : List Str) (sp : Sp) : Prop where
  ex : ∃ f fd, FnOk P w K mg base CX0 k f fd ps sp ∧ mg x = some (.ref C) ∧ Mk K C f ∧ Binds K fd ps []
end
theorem GD.mono {P : Program} {w : World} {K : PySem.W.Frag} {mg : Str → Option Value} {base : Heap} {CX : CXT} {j k : Nat} {x : Str} {ps : List Str} {sp : Sp} (D : GD P w K mg base CX j x ps sp) (h : j ≤ k) : GD P w K mg base CX k x ps sp := by
  obtain ⟨f, fd, F, r⟩ := D.ex
  exact ⟨f, fd, F.mono h, r⟩
theorem MD.mono {P : Program} {w : World} {K : PySem.W.Frag} {mg : Str → Option Value} {base : Heap} {CX : CXT} {j k : Nat} {C : Addr} {m : Str} {ps : List Str} {sp : Sp} (D : MD P w K mg base CX j C m ps sp) (h : j ≤ k) : MD P w K mg base CX k C m ps sp := by
  obtain ⟨f, fd, F, r⟩ := D.ex
  exact ⟨f, fd, F.mono h, r⟩
section
variable {X : Cx} {CX : CXT} {k : Nat} {C : Addr} {ps : List Str} {sp : Sp} {E : XK} {x m : Str} {p pos apos : Pos} {e o : Expr} {es : List Expr} {ta : TE} {t : TA}
theorem pe_cd (D : GD X.prog X.w X.K X.mg X.base CX0 k x ps sp) (hr : Room k X.A) (ha : PA X (e :: es) t) (hg : Gl X x := by rfl) (hdb : (x == ("__debug__" : Str)) = false := by decide)
    (he : starEach (e :: es) X.env = (false, eval e X.env) :: starEach es X.env := by rfl) (hpl : (backTo pos (starEach es X.env)).any (·.1) = false := by rfl) :
    PE X (.Call (.Name x p) (e :: es) [] pos) (tCall sp [] E0 t) := by
  obtain ⟨f, fd, F, g, kp, b⟩ := D.ex
  exact pe_call F hr hg g kp b .nil pass0 ha hdb he hpl
theorem pe_md {pl : Sem Bool} (D : MD X.prog X.w X.K X.mg X.base CX0 k C m ps sp) (hr : Room k X.A) (he : PE X o ta) (ha : PA X (e :: es) t)
    (hst : starEach (e :: es) X.env = (false, eval e X.env) :: starEach es X.env := by rfl) (hpl : (backTo pos (starEach es X.env)).any (·.1) = false := by rfl)
    (ht : eval (.Call (.Attribute o m apos) (e :: es) [] pos) X.env = (do
      let ov ← eval o X.env
      standAt apos.atName
      let (f, first) ← holding [ov] (getMethod ov m pl)
      callWith pos f first (backTo pos (starEach (e :: es) X.env)) (backToKw pos (keywordEach [] X.env))) := by rfl) :
    PE X (.Call (.Attribute o m apos) (e :: es) [] pos) (tMeth C m sp [] E0 ta t) := by
  obtain ⟨f, fd, F, c, hm, b⟩ := D.ex
  exact pe_meth he c hm F hr b .nil pass0 ha hst hpl ht
theorem pe_md0 {pl : Sem Bool} (D : MD X.prog X.w X.K X.mg X.base CX0 k C m ps sp) (hr : Room k X.A) (he : PE X o ta)
    (ht : eval (.Call (.Attribute o m apos) [] [] pos) X.env = (do
      let ov ← eval o X.env
      standAt apos.atName
      let (f, first) ← holding [ov] (getMethod ov m pl)
      callWith pos f first (backTo pos (starEach [] X.env)) (backToKw pos (keywordEach [] X.env))) := by rfl) :
    PE X (.Call (.Attribute o m apos) [] [] pos) (tMeth C m sp [] E0 ta tNil) := by
  obtain ⟨f, fd, F, c, hm, b⟩ := D.ex
  exact pe_meth0 he c hm F hr b .nil pass0 ht
theorem pe_mk (D : ND X.prog X.w X.K X.mg X.base k x C ps sp) (hr : Room (k + 1) X.A) (ha : PA X (e :: es) t) (hg : Gl X x := by rfl) (hdb : (x == ("__debug__" : Str)) = false := by decide)
    (he : starEach (e :: es) X.env = (false, eval e X.env) :: starEach es X.env := by rfl) (hpl : (backTo pos (starEach es X.env)).any (·.1) = false := by rfl) :
    PE X (.Call (.Name x p) (e :: es) [] pos) (tMake C sp [] E0 t) := by
  obtain ⟨f, fd, F, g, M, b⟩ := D.ex
  exact pe_make M F hr hg g b .nil pass0 ha hdb he hpl
/-- a module's whole number -/
theorem pe_gi {i : Int} (hg : Gl X x) (h : ∃ t, X.mg x = some (Value.int i t)) (hd : (x == ("__debug__" : Str)) = false := by decide) : PE X (.Name x pos) (tC (.int i)) := by
  obtain ⟨tk, h⟩ := h
  exact pe_glob hg h ⟨tk, rfl⟩ hd
/-- one of several readings -/
theorem pe_some {ι : Type} {T : ι → TE} (h : ∀ i, PE X e (T i)) : PE X e (fun σ H Q => ∃ i, T i σ H Q) :=
  ⟨fun pins s σ H Q I q => let ⟨i, q⟩ := q; (h i).run pins s σ H Q I q⟩
theorem hu65 {A : Around} {k : Nat} (hr : Room k A) : A.units + 65 < cLine := by have := hr.un; omega
end

/-! ### data of tuples and numbers -/
/-- tuples, and what is locked, stay -/
def TK (H H' : Hp) : Prop := (∀ b xs, H b = some (.tup xs) → H' b = some (.tup xs)) ∧ ∀ b o u, H b = some (.frz o u) → H' b = some (.frz o u)
theorem TK.refl (H : Hp) : TK H H := ⟨fun _ _ h => h, fun _ _ _ h => h⟩
theorem TK.trans {H H1 H2 : Hp} (a : TK H H1) (b : TK H1 H2) : TK H H2 := ⟨fun c o h => b.1 c o (a.1 c o h), fun c o u h => b.2 c o u (a.2 c o u h)⟩
theorem TK.of {H H' : Hp} (e : Ex H H') : TK H H' := ⟨fun b xs h => e b _ h, fun b o u h => e b _ h⟩
theorem TK.updL {H : Hp} {l : Addr} {xs : List V} {o : HO} (h : H l = some (.lst xs)) : TK H (upd H l o) :=
  ⟨fun b ys q => by rw [upd_ne (ne_of q h (by intro z; cases z))]; exact q, fun b o' u q => by rw [upd_ne (ne_of q h (by intro z; cases z))]; exact q⟩
theorem TK.updI {H : Hp} {l C dx : Addr} {fs : List (Str × V)} {o : HO} (h : H l = some (.ins C dx fs)) : TK H (upd H l o) :=
  ⟨fun b ys q => by rw [upd_ne (ne_of q h (by intro z; cases z))]; exact q, fun b o' u q => by rw [upd_ne (ne_of q h (by intro z; cases z))]; exact q⟩
theorem TK.rdT {H H' : Hp} (e : TK H H') {a : Addr} {xs : List V} (h : Rd H a (.tup xs)) : Rd H' a (.tup xs) := by
  rcases h with h | ⟨o, h⟩
  · exact .inl (e.1 a xs h)
  · exact .inr ⟨o, e.2 a o _ h⟩
theorem TK.sqT {K : PySem.W.Frag} {H H' : Hp} (e : TK H H') {a : Addr} {xs : List V} (h : SqT K H a xs) : SqT K H' a xs := by
  rcases h with h | h
  · exact .inl (e.rdT h)
  · exact .inr h
mutual
/-- no list, no dict within -/
def tupD : PyData → Bool
  | .none => true
  | .bool _ => true
  | .int _ => true
  | .str _ => true
  | .tuple ds => tupDs ds
  | _ => false
def tupDs : List PyData → Bool
  | [] => true
  | d :: ds => tupD d && tupDs ds
end
mutual
theorem dp_tk {K : PySem.W.Frag} {H H' : Hp} (e : TK H H') : ∀ (d : PyData) (v : V), tupD d = true → Dp K H v d → Dp K H' v d
  | .none, _, _, h => by cases h; exact .non
  | .bool b, _, _, h => by cases h; exact .bl b
  | .int i, _, _, h => by cases h; exact .int i
  | .str x, _, _, h => by cases h; exact .str x
  | .tuple ds, _, n, h => by
    cases h with
    | tup h1 h2 => exact .tup (e.sqT h1) (dps_tk e ds _ n h2)
  | .list ds, _, n, _ => by cases n
  | .dict ds, _, n, _ => by cases n
theorem dps_tk {K : PySem.W.Frag} {H H' : Hp} (e : TK H H') : ∀ (ds : List PyData) (vs : List V), tupDs ds = true → DpAll K H vs ds → DpAll K H' vs ds
  | [], _, _, h => by cases h; exact .nil
  | d :: ds, _, n, h => by
    have n' : (tupD d && tupDs ds) = true := n
    rw [Bool.and_eq_true] at n'
    cases h with
    | cons h1 h2 => exact .cons (dp_tk e d _ n'.1 h1) (dps_tk e ds _ n'.2 h2)
end
theorem tupDs_all : ∀ {ds : List PyData}, (∀ d ∈ ds, tupD d = true) → tupDs ds = true
  | [], _ => rfl
  | d :: ds, h => by
    show (tupD d && tupDs ds) = true
    rw [h d List.mem_cons_self, tupDs_all fun x hx => h x (List.mem_cons_of_mem _ hx)] <;> rfl
theorem dpall_len {K : PySem.W.Frag} {H : Hp} : ∀ {vs : List V} {ds : List PyData}, DpAll K H vs ds → vs.length = ds.length
  | _, _, .nil => rfl
  | _, _, .cons _ h => congrArg (· + 1) (dpall_len h)
theorem dpall_get {K : PySem.W.Frag} {H : Hp} : ∀ {vs : List V} {ds : List PyData} {i : Nat} {d : PyData}, DpAll K H vs ds → ds[i]? = some d → ∃ v, vs[i]? = some v ∧ Dp K H v d
  | _, _, _, _, .nil, h => by simp at h
  | _, _, 0, _, .cons h1 _, h => by simp at h; subst h; exact ⟨_, rfl, h1⟩
  | _, _, i + 1, d, .cons _ h2, h => by
    obtain ⟨v, e1, e2⟩ := dpall_get (i := i) (d := d) h2 (by simpa using h)
    exact ⟨v, by simpa using e1, e2⟩
theorem dpall_getv {K : PySem.W.Frag} {H : Hp} : ∀ {vs : List V} {ds : List PyData} {i : Nat} {v : V}, DpAll K H vs ds → vs[i]? = some v → ∃ d, ds[i]? = some d ∧ Dp K H v d
  | _, _, _, _, .nil, h => by simp at h
  | _, _, 0, _, .cons h1 _, h => by simp at h; subst h; exact ⟨_, rfl, h1⟩
  | _, _, i + 1, v, .cons _ h2, h => by
    obtain ⟨d, e1, e2⟩ := dpall_getv (i := i) (v := v) h2 (by simpa using h)
    exact ⟨d, by simpa using e1, e2⟩
theorem dpall_app {K : PySem.W.Frag} {H : Hp} : ∀ {vs us : List V} {ds es : List PyData}, DpAll K H vs ds → DpAll K H us es → DpAll K H (vs ++ us) (ds ++ es)
  | _, _, _, _, .nil, h => h
  | _, _, _, _, .cons h1 h2, h => .cons h1 (dpall_app h2 h)
theorem dpall_drop {K : PySem.W.Frag} {H : Hp} : ∀ (n : Nat) {vs : List V} {ds : List PyData}, DpAll K H vs ds → DpAll K H (vs.drop n) (ds.drop n)
  | 0, _, _, h => h
  | _ + 1, _, _, .nil => .nil
  | n + 1, _, _, .cons _ h => dpall_drop n h
theorem dpall_take {K : PySem.W.Frag} {H : Hp} : ∀ (n : Nat) {vs : List V} {ds : List PyData}, DpAll K H vs ds → DpAll K H (vs.take n) (ds.take n)
  | 0, _, _, _ => .nil
  | _ + 1, _, _, .nil => .nil
  | n + 1, _, _, .cons h1 h => .cons h1 (dpall_take n h)
theorem dp_tup_inv {K : PySem.W.Frag} {H : Hp} {v : V} {ds : List PyData} (h : Dp K H v (.tuple ds)) : ∃ a xs, v = .ref a ∧ SqT K H a xs ∧ DpAll K H xs ds := by
  cases h with
  | tup h1 h2 => exact ⟨_, _, rfl, h1, h2⟩
theorem dpall_ints {K : PySem.W.Frag} {H : Hp} : ∀ {vs : List V} (ns : List Int), DpAll K H vs (ns.map PyData.int) → vs = ns.map V.int
  | _, [], h => by cases h; rfl
  | _, n :: ns, h => by
    cases h with
    | cons h1 h2 =>
      cases h1
      rw [dpall_ints ns h2, List.map_cons]
theorem ints_dpall {K : PySem.W.Frag} {H : Hp} : ∀ (ns : List Int), DpAll K H (ns.map V.int) (ns.map PyData.int)
  | [] => .nil
  | n :: ns => .cons (.int n) (ints_dpall ns)

/-! ### results -/
/-- a list to be read, of such data -/
def LD (K : PySem.W.Frag) (H : Hp) (a : Addr) (ds : List PyData) : Prop := ∃ xs, SqL K H a xs ∧ DpAll K H xs ds
/-- a new list of such data -/
def RetDL (K : PySem.W.Frag) (ds : List PyData) (H : Hp) (Q : VK) : Prop := ∀ p xs H2, H p = none → Ex H H2 → H2 p = some (.lst xs) → DpAll K H2 xs ds → Q (.ref p) H2
theorem LD.ex {K : PySem.W.Frag} {H H' : Hp} {a : Addr} {ds : List PyData} (h : LD K H a ds) (n : tupDs ds = true) (e : Ex H H') : LD K H' a ds := by
  obtain ⟨xs, h1, h2⟩ := h
  exact ⟨xs, ex_l e h1, dps_tk (TK.of e) _ _ n h2⟩
/-- what a reading gives: some value of which P holds -/
def EvP (te : TE) (σ : L2.St) (H : Hp) (R : V → Hp → Prop) : Prop := ∀ H1, Ex H H1 → ∀ Q : VK, (∀ v H2, Ex H1 H2 → R v H2 → Q v H2) → te σ H1 Q
/-- .. a new list of data -/
def EvDL (K : PySem.W.Frag) (te : TE) (σ : L2.St) (H : Hp) (ds : List PyData) : Prop := ∀ H1, Ex H H1 → ∀ Q : VK, RetDL K ds H1 Q → te σ H1 Q
section
variable {K : PySem.W.Frag} {σ : L2.St} {H H' : Hp} {ta tb te tx : TE} {t u : TT} {x y z v : V} {r : R2}
theorem ev_p (h : Ev te σ H v) : EvP te σ H (fun u _ => u = v) := fun H1 e Q q => h H1 e Q fun H2 e2 => q v H2 e2 rfl
theorem retV_mono {Q : VK} (k : RetV v H Q) (e : Ex H H') : RetV v H' Q := fun H2 e2 => k H2 (e.trans e2)
theorem RetDL.mono {Q : VK} {ds : List PyData} (k : RetDL K ds H Q) (e : Ex H H') : RetDL K ds H' Q := fun p xs H2 hp e2 h2 hd => k p xs H2 (fresh_back e hp) (e.trans e2) h2 hd
end
end BA
namespace BA
open PySem PySem.Spec PyProof.Rows L2 Evl
/-! ### comprehensions without tests: each item's value is told by R -/
section
variable {K : PySem.W.Frag} {σ : L2.St} {H H' : Hp} {ta tb te tx tl : TE} {t u : TT} {x y z v : V} {r : R2} {g : TG} {vs : List Nat}
theorem szl {n : Nat} (h : n < 16000001) : n < sizeLine := Nat.lt_of_lt_of_le h (by decide)
/-- what an item's turn gives -/
def Elt (g : TG) (te : TE) (vs : List Nat) (σ : L2.St) (H : Hp) (x : V) (R : V → Hp → Prop) : Prop :=
  ∀ H1, Ex H H1 → ∀ Q : V → Hp → Prop, (∀ y H2, Ex H1 H2 → R y H2 → Q y H2) → g x (wipe σ vs) H1 fun σ2 H2 => wipe σ2 vs = wipe σ vs ∧ te σ2 H2 Q
def CwR (H : Hp) (R : Nat → V → Hp → Prop) (Dl : Addr) (i : Nat) (H' : Hp) : Prop := H Dl = none ∧ Ex H H' ∧ ∃ acc, H' Dl = some (.lst acc) ∧ acc.length = i ∧ ∀ j y, acc[j]? = some y → R j y H'
theorem gmono {g : TG} {x : V} {σ : L2.St} {H : Hp} {P Q : L2.St → Hp → Prop} (hg : (∀ σ' H', P σ' H' → Q σ' H') → g x σ H P → g x σ H Q) (k : ∀ σ' H', P σ' H' → Q σ' H') (h : g x σ H P) : g x σ H Q := hg k h
theorem cwr_turn {R : Nat → V → Hp → Prop} (Rm : ∀ j y H H', TK H H' → R j y H → R j y H') {Dl : Addr} {i : Nat} (p : CwR H R Dl i H') (hi : i < 16000001) (he : Elt g te vs σ H x (R i))
    (gm : ∀ (P Q : L2.St → Hp → Prop), (∀ σ' H', P σ' H' → Q σ' H') → g x (wipe σ vs) H' P → g x (wipe σ vs) H' Q) :
    g x (wipe σ vs) H' fun σ2 H2 => wipe σ2 vs = wipe σ vs ∧ tYes σ2 H2 fun b H3 => if b = true then te σ2 H3 fun y H4 => ∃ acc, H4 Dl = some (.lst acc) ∧ acc.length < sizeLine ∧ CwR H R Dl (i + 1) (upd H4 Dl (.lst (acc ++ [y]))) else CwR H R Dl (i + 1) H3 := by
  obtain ⟨p1, p2, acc, p3, p4, p5⟩ := p
  refine gm _ _ (fun σ2 H2 h => ⟨h.1, ?_⟩) (he H' p2 (fun y H4 => ∃ acc, H4 Dl = some (.lst acc) ∧ acc.length < sizeLine ∧ CwR H R Dl (i + 1) (upd H4 Dl (.lst (acc ++ [y])))) fun y H4 e4 ry => ?_)
  · show (if true = true then te σ2 H2 fun y H4 => ∃ acc, H4 Dl = some (.lst acc) ∧ acc.length < sizeLine ∧ CwR H R Dl (i + 1) (upd H4 Dl (.lst (acc ++ [y]))) else CwR H R Dl (i + 1) H2)
    rw [if_pos rfl]
    exact h.2
  · have q : H4 Dl = some (.lst acc) := e4 Dl _ p3
    refine ⟨acc, q, szl (by omega), p1, Ex.mut (p2.trans e4) p1, acc ++ [y], upd_same, by rw [List.length_append, p4]; rfl, fun j z hz => ?_⟩
    have tk : TK H4 (upd H4 Dl (.lst (acc ++ [y]))) := TK.updL q
    by_cases hj : j < acc.length
    · rw [List.getElem?_append_left hj] at hz
      exact Rm _ _ _ _ ((TK.of e4).trans tk) (p5 j z hz)
    · rw [List.getElem?_append_right (by omega)] at hz
      have e0 : j - acc.length = 0 := by
        cases e : j - acc.length with
        | zero => rfl
        | succ n => rw [e] at hz; simp at hz
      rw [e0] at hz
      cases hz
      have ej : j = i := by omega
      subst ej
      exact Rm _ _ _ _ tk ry
/-- the whole: over a list that stands -/
theorem lc_R {R : Nat → V → Hp → Prop} (Rm : ∀ j y H H', TK H H' → R j y H → R j y H') {a : Addr} {xs : List V} (h : Ev tl σ H (.ref a)) (hx : SqL K H a xs) (hz : xs.length ≤ 16000000)
    (gm : ∀ x H' (P Q : L2.St → Hp → Prop), (∀ σ' H', P σ' H' → Q σ' H') → g x (wipe σ vs) H' P → g x (wipe σ vs) H' Q)
    (he : ∀ (i : Nat) x H1, Ex H H1 → xs[i]? = some x → Elt g te vs σ H1 x (R i)) :
    ∀ H1, Ex H H1 → ∀ Q : VK, (∀ p acc H2, H1 p = none → Ex H1 H2 → H2 p = some (.lst acc) → acc.length = xs.length → (∀ j y, acc[j]? = some y → R j y H2) → Q (.ref p) H2) → tLc (iList K tl) g tYes te vs σ H1 Q := fun H0 e Q q => h H0 e _ fun H1 e1 => by
  refine ⟨a, rfl, ⟨xs, ex_l (e.trans e1) hx⟩, fun Dl hD => ?_⟩
  refine lc_list (xs := xs) (CwR H1 R Dl) ⟨hD, Ex.new hD, [], upd_same, rfl, fun j y z => by simp at z⟩ (fun i H' _ p => ex_l ((e.trans e1).trans p.2.1) hx) (fun i x H' hi p => ?_) (fun H' p => ?_)
  · exact cwr_turn Rm p (by have := (List.getElem?_eq_some_iff.mp hi).1; omega) (he i x H1 (e.trans e1) hi) (gm x H')
  · obtain ⟨p1, p2, acc, p3, p4, p5⟩ := p
    exact q Dl acc H' (fresh_back e1 p1) (e1.trans p2) p3 p4 p5
/-- .. over a new list of data -/
theorem lc_RN {R : Nat → V → Hp → Prop} (Rm : ∀ j y H H', TK H H' → R j y H → R j y H') {ds : List PyData} (h : EvDL K tl σ H ds) (hn : tupDs ds = true) (hz : ds.length ≤ 16000000)
    (gm : ∀ x H' (P Q : L2.St → Hp → Prop), (∀ σ' H', P σ' H' → Q σ' H') → g x (wipe σ vs) H' P → g x (wipe σ vs) H' Q)
    (he : ∀ (i : Nat) d x H1, Ex H H1 → ds[i]? = some d → Dp K H1 x d → Elt g te vs σ H1 x (R i)) :
    ∀ H1, Ex H H1 → ∀ Q : VK, (∀ p acc H2, H1 p = none → Ex H1 H2 → H2 p = some (.lst acc) → acc.length = ds.length → (∀ j y, acc[j]? = some y → R j y H2) → Q (.ref p) H2) → tLc (iList K tl) g tYes te vs σ H1 Q := fun H0 e Q q => h H0 e _ fun a xs H1 ha e1 h1 hd => by
  have hl := dpall_len hd
  refine ⟨a, rfl, ⟨xs, sq_of h1⟩, fun Dl hD => ?_⟩
  refine lc_list (xs := xs) (CwR H1 R Dl) ⟨hD, Ex.new hD, [], upd_same, rfl, fun j y z => by simp at z⟩ (fun i H' _ p => ex_l p.2.1 (sq_of h1)) (fun i x H' hi p => ?_) (fun H' p => ?_)
  · obtain ⟨d, hd1, hd2⟩ := dpall_getv hd hi
    exact cwr_turn Rm p (by have := (List.getElem?_eq_some_iff.mp hi).1; omega) (he i d x H1 (e.trans e1) hd1 hd2) (gm x H')
  · obtain ⟨p1, p2, acc, p3, p4, p5⟩ := p
    exact q Dl acc H' (fresh_back e1 p1) (e1.trans p2) p3 (p4.trans hl) p5
/-- over range(a, b, c) -/
theorem lc_rangeC {lo c : Int} {n : Nat} {g : TG} {tt : TT} {te : TE} {vs : List Nat} {σ : L2.St} {H1 : Hp} {D : Addr} {Qd : Hp → Prop} (Pv : Nat → Hp → Prop) (h0 : Pv 0 (upd H1 D (.lst [])))
    (hs : ∀ i H, i < n → Pv i H → g (.int (lo + i * c)) (wipe σ vs) H fun σ2 H2 => wipe σ2 vs = wipe σ vs ∧ tt σ2 H2 fun b H3 =>
      if b = true then te σ2 H3 fun y H4 => ∃ acc, H4 D = some (.lst acc) ∧ acc.length < sizeLine ∧ Pv (i + 1) (upd H4 D (.lst (acc ++ [y]))) else Pv (i + 1) H3) (hd : ∀ H, Pv n H → Qd H) :
    ∃ W : Nat → Nat → Hp → Prop, (∃ m, W 0 m (upd H1 D (.lst []))) ∧ ∀ i m H, W i m H →
      ((Itc lo c n).stop i H ∧ Qd H) ∨ ((Itc lo c n).go i H ∧ ∃ Nx : Hp → Prop, (∀ H', Nx H' → ∃ m', m' < m ∧ W (i + 1) m' H') ∧ ∀ x H', (Itc lo c n).yld i H x H' → g x (wipe σ vs) H' fun σ2 H2 => wipe σ2 vs = wipe σ vs ∧ tt σ2 H2 fun b H3 =>
        if b = true then te σ2 H3 fun y H4 => ∃ acc, H4 D = some (.lst acc) ∧ acc.length < sizeLine ∧ Nx (upd H4 D (.lst (acc ++ [y]))) else Nx H3) := by
  refine ⟨fun i m H => m = n - i ∧ i ≤ n ∧ Pv i H, ⟨n, by simp, Nat.zero_le _, h0⟩, ?_⟩
  rintro i m H ⟨rfl, hi, p⟩
  by_cases hlt : i < n
  · refine .inr ⟨hlt, Pv (i + 1), fun H' p' => ⟨n - (i + 1), by omega, rfl, hlt, p'⟩, fun x H' y => ?_⟩
    obtain ⟨e, y⟩ := y
    subst e y
    exact hs i _ hlt p
  · have e : i = n := by omega
    subst e
    exact .inl ⟨Nat.le_refl _, hd H p⟩
end
end BA
/-! ## P1: the book's tests, in plain Lean -/
namespace BP
open Ks480 (Bid)
abbrev T3 := Nat × Nat × Nat
def isThree (k i x : Nat) : Bool :=
  if k = 0 ∨ k = 1 ∨ k = 4 then true else if k = 2 ∨ k = 3 then decide (x = 0) else decide (k = 5) && (decide (i = 0) && decide (x = 0))
def threes : List Nat → List T3
  | k :: i :: x :: l => (k, i, x) :: threes l
  | _ => []
def fours : List Nat → List Bid
  | k :: a :: b :: c :: l => ⟨k, a, b, c⟩ :: fours l
  | _ => []
def areHap (h : List Nat) : Bool := if h.length % 3 ≠ 0 ∨ h.length > 180 then false else (threes h).all fun t => isThree t.1 t.2.1 t.2.2
def areBids (b : List Nat) : Bool := decide (b.length % 4 = 0) && (fours b).all fun b => decide (b.kind ≤ 6)
def isBook (h s b : List Nat) : Bool :=
  if (!areHap h) = true ∨ (!areBids b) = true then false else decide (3 * ((s.length : Int) - 1) = (h.length : Int)) && decide (4 * s.sum = b.length)
def isKind (bs : List Bid) (k i : Nat) : Bool := match bs[i]? with
  | some b => decide (b.kind = k)
  | none => false
def isBidden (bs : List Bid) (k i : Nat) : Bool := bs.contains ⟨k, i, 0, 0⟩
def isHap (past : List T3) (ks : List Nat) (i : Nat) : Bool := past.any fun t => decide (t.1 ∈ ks) && decide (t.2.1 = i)
def isOpen (past : List T3) (bs : List Bid) (i : Nat) : Bool := isKind bs 0 i && !isHap past [0, 1, 2] i
def isStepOff (past : List T3) (bs : List Bid) (i : Nat) : Bool := isOpen past bs i && isBidden bs 3 i
def isTimer (past : List T3) (bs : List Bid) (i : Nat) : Bool := if (!isKind bs 1 i) = true ∨ isBidden bs 2 i = true then false else !isHap past [3] i
def openList (p : Nat → Bool) (n : Nat) : List Nat := (List.range n).filter p
def counted (l : List Nat) : List Nat := l.length :: l
def openOf (h b : List Nat) : List Nat :=
  counted (openList (isOpen (threes h) (fours b)) (fours b).length) ++ counted (openList (isStepOff (threes h) (fours b)) (fours b).length) ++ counted (openList (isTimer (threes h) (fours b)) (fours b).length)
theorem threes_get : ∀ (l : List Nat) (i : Nat), l.length % 3 = 0 → i < l.length / 3 →
    ∃ a b c, (threes l)[i]? = some (a, b, c) ∧ l[3 * i]? = some a ∧ l[3 * i + 1]? = some b ∧ l[3 * i + 2]? = some c
  | [], i, _, h => by simp at h
  | [_], i, h, _ => by simp at h
  | [_, _], i, h, _ => by simp at h
  | a :: b :: c :: l, 0, _, _ => ⟨a, b, c, rfl, rfl, rfl, rfl⟩
  | a :: b :: c :: l, i + 1, h, hi => by
    obtain ⟨x, y, z, e0, e1, e2, e3⟩ := threes_get l i (by simp at h; omega) (by simp at hi; omega)
    refine ⟨x, y, z, ?_, ?_, ?_, ?_⟩
    · show ((a, b, c) :: threes l)[i + 1]? = _
      rw [List.getElem?_cons_succ]; exact e0
    · rw [show 3 * (i + 1) = 3 * i + 1 + 1 + 1 by omega]; simpa using e1
    · rw [show 3 * (i + 1) + 1 = 3 * i + 1 + 1 + 1 + 1 by omega]; simpa using e2
    · rw [show 3 * (i + 1) + 2 = 3 * i + 2 + 1 + 1 + 1 by omega]; simpa using e3
theorem threes_len : ∀ (l : List Nat), l.length % 3 = 0 → (threes l).length = l.length / 3
  | [], _ => rfl
  | [_], h => by simp at h
  | [_, _], h => by simp at h
  | a :: b :: c :: l, h => by
    have := threes_len l (by simp at h; omega)
    show (threes l).length + 1 = _
    rw [this]; simp; omega
theorem fours_get : ∀ (l : List Nat) (i : Nat), l.length % 4 = 0 → i < l.length / 4 →
    ∃ a b c d, (fours l)[i]? = some ⟨a, b, c, d⟩ ∧ l[4 * i]? = some a ∧ l[4 * i + 1]? = some b ∧ l[4 * i + 2]? = some c ∧ l[4 * i + 3]? = some d
  | [], i, _, h => by simp at h
  | [_], i, h, _ => by simp at h
  | [_, _], i, h, _ => by simp at h
  | [_, _, _], i, h, _ => by simp at h
  | a :: b :: c :: d :: l, 0, _, _ => ⟨a, b, c, d, rfl, rfl, rfl, rfl, rfl⟩
  | a :: b :: c :: d :: l, i + 1, h, hi => by
    obtain ⟨x, y, z, w, e0, e1, e2, e3, e4⟩ := fours_get l i (by simp at h; omega) (by simp at hi; omega)
    refine ⟨x, y, z, w, ?_, ?_, ?_, ?_, ?_⟩
    · show (Bid.mk a b c d :: fours l)[i + 1]? = _
      rw [List.getElem?_cons_succ]; exact e0
    · rw [show 4 * (i + 1) = 4 * i + 1 + 1 + 1 + 1 by omega]; simpa using e1
    · rw [show 4 * (i + 1) + 1 = 4 * i + 1 + 1 + 1 + 1 + 1 by omega]; simpa using e2
    · rw [show 4 * (i + 1) + 2 = 4 * i + 2 + 1 + 1 + 1 + 1 by omega]; simpa using e3
    · rw [show 4 * (i + 1) + 3 = 4 * i + 3 + 1 + 1 + 1 + 1 by omega]; simpa using e4
theorem fours_len : ∀ (l : List Nat), l.length % 4 = 0 → (fours l).length = l.length / 4
  | [], _ => rfl
  | [_], h => by simp at h
  | [_, _], h => by simp at h
  | [_, _, _], h => by simp at h
  | a :: b :: c :: d :: l, h => by
    have := fours_len l (by simp at h; omega)
    show (fours l).length + 1 = _
    rw [this]; simp; omega
end BP
namespace BA
open PySem PySem.Spec PyProof.Rows L2 Evl
open Ks480 (Bid)
open BP (T3)
/-! ### threes and fours as data -/
abbrev vN (n : Nat) : V := .int (n : Int)
def e3 (t : T3) : PyData := .tuple [.int t.1, .int t.2.1, .int t.2.2]
def eB (b : Bid) : PyData := .tuple [.int b.kind, .int b.a, .int b.b, .int b.c]
theorem e3_tup (ts : List T3) : tupDs (ts.map e3) = true := tupDs_all fun d hd => by
  obtain ⟨t, _, rfl⟩ := List.mem_map.mp hd
  rfl
theorem eB_tup (bs : List Bid) : tupDs (bs.map eB) = true := tupDs_all fun d hd => by
  obtain ⟨t, _, rfl⟩ := List.mem_map.mp hd
  rfl
theorem eB_shaped (b : Bid) : SeqAt.shaped (eB b) = true := by
  show ((eB b).canLay0 && decide ((eB b).depth ≤ 64)) = true
  simp [eB, PyData.canLay0, PyData.canLayAll0, PyData.depth, PyData.depthAll]
theorem eBs_lay : ∀ bs : List Bid, PyData.canLayAll0 (bs.map eB) = true
  | [] => by simp [PyData.canLayAll0]
  | b :: bs => by
    have h : (eB b).canLay0 = true := by simp [eB, PyData.canLay0, PyData.canLayAll0]
    simp [PyData.canLayAll0, h, eBs_lay bs]
theorem eBs_depth : ∀ bs : List Bid, PyData.depthAll (bs.map eB) ≤ 1
  | [] => by simp [PyData.depthAll]
  | b :: bs => by
    have h1 := eBs_depth bs
    have h2 : (eB b).depth = 1 := by simp [eB, PyData.depth, PyData.depthAll]
    simp only [List.map_cons, PyData.depthAll]
    omega
theorem eBs_shaped (bs : List Bid) : SeqAt.shaped (.list (bs.map eB)) = true := by
  have h1 := eBs_depth bs
  have h2 : PyData.depth (.list (bs.map eB)) ≤ 64 := by
    simp only [PyData.depth]
    omega
  show (PyData.canLay0 (.list (bs.map eB)) && decide (PyData.depth (.list (bs.map eB)) ≤ 64)) = true
  rw [Bool.and_eq_true]
  exact ⟨by simp only [PyData.canLay0]; exact eBs_lay bs, decide_eq_true h2⟩
theorem eB_eqv (x y : Bid) : PyData.eqv (eB x) (eB y) = decide (x = y) := by
  obtain ⟨a, b, c, d⟩ := x
  obtain ⟨a', b', c', d'⟩ := y
  have e : PyData.eqv (eB ⟨a, b, c, d⟩) (eB ⟨a', b', c', d'⟩) = (((a : Int) == (a' : Int)) && (((b : Int) == (b' : Int)) && (((c : Int) == (c' : Int)) && (((d : Int) == (d' : Int)) && true)))) := by simp only [eB, PyData.eqv, PyData.eqvAll]
  rw [e]
  rw [Bool.eq_iff_iff]
  simp only [Bool.and_eq_true, beq_iff_eq, decide_eq_true_eq, Bid.mk.injEq, Int.ofNat_inj, and_true]
theorem eBs_eqv : ∀ (x y : List Bid), PyData.eqvAll (x.map eB) (y.map eB) = decide (x = y)
  | [], [] => by simp [PyData.eqvAll]
  | [], _ :: _ => by simp [PyData.eqvAll]
  | _ :: _, [] => by simp [PyData.eqvAll]
  | a :: x, b :: y => by
    simp only [List.map_cons, PyData.eqvAll, eB_eqv, eBs_eqv x y]
    rw [Bool.eq_iff_iff]
    simp
theorem eBl_eqv (x y : List Bid) : PyData.eqv (.list (x.map eB)) (.list (y.map eB)) = decide (x = y) := by
  simp only [PyData.eqv, eBs_eqv]
/-- a four's, a three's parts -/
theorem dp_B {K : PySem.W.Frag} {H : Hp} {v : V} {b : Bid} (h : Dp K H v (eB b)) : ∃ a, v = .ref a ∧ SqT K H a [vN b.kind, vN b.a, vN b.b, vN b.c] := by
  obtain ⟨a, xs, e, h1, h2⟩ := dp_tup_inv h
  refine ⟨a, e, ?_⟩
  have := dpall_ints [(b.kind : Int), b.a, b.b, b.c] h2
  rw [this] at h1
  exact h1
theorem dp_3 {K : PySem.W.Frag} {H : Hp} {v : V} {t : T3} (h : Dp K H v (e3 t)) : ∃ a, v = .ref a ∧ SqT K H a [vN t.1, vN t.2.1, vN t.2.2] := by
  obtain ⟨a, xs, e, h1, h2⟩ := dp_tup_inv h
  refine ⟨a, e, ?_⟩
  have := dpall_ints [(t.1 : Int), t.2.1, t.2.2] h2
  rw [this] at h1
  exact h1
theorem B_dp {K : PySem.W.Frag} {H : Hp} {a : Addr} {b : Bid} (h : SqT K H a [vN b.kind, vN b.a, vN b.b, vN b.c]) : Dp K H (.ref a) (eB b) := .tup h (ints_dpall [(b.kind : Int), b.a, b.b, b.c])
theorem t3_dp {K : PySem.W.Frag} {H : Hp} {a : Addr} {t : T3} (h : SqT K H a [vN t.1, vN t.2.1, vN t.2.2]) : Dp K H (.ref a) (e3 t) := .tup h (ints_dpall [(t.1 : Int), t.2.1, t.2.2])
/-- a list of data, told as whole -/
theorem LD.dp {K : PySem.W.Frag} {H : Hp} {a : Addr} {ds : List PyData} (h : LD K H a ds) : Dp K H (.ref a) (.list ds) := by
  obtain ⟨xs, h1, h2⟩ := h
  exact .lst h1 h2
theorem inV_ints (k : Int) : ∀ ns : List Int, inV (.int k) (ns.map V.int) = decide (k ∈ ns)
  | [] => by simp [inV]
  | n :: ns => by
    have h := inV_ints k ns
    unfold inV at h ⊢
    rw [List.map_cons, List.any_cons, h]
    have e : eqV (.int n) (.int k) = decide (n = k) := by
      show (n == k) = _
      rw [Bool.eq_iff_iff]; simp
    rw [e]
    rw [Bool.eq_iff_iff]
    simp only [Bool.or_eq_true, decide_eq_true_eq, List.mem_cons]
    exact ⟨fun h => h.elim (fun h => .inl h.symm) .inr, fun h => h.elim (fun h => .inl h.symm) .inr⟩
theorem inV_nats (k : Nat) (ns : List Nat) : inV (vN k) (ns.map vN) = decide (k ∈ ns) := by
  have := inV_ints (k : Int) (ns.map fun (n : Nat) => (n : Int))
  rw [List.map_map] at this
  rw [show ns.map vN = ns.map (V.int ∘ fun (n : Nat) => (n : Int)) from rfl, this]
  rw [Bool.eq_iff_iff]
  simp only [List.mem_map, decide_eq_true_eq]
  exact ⟨fun ⟨a, h, e⟩ => by have : a = k := by omega
                             subst this; exact h, fun h => ⟨k, h, rfl⟩⟩
theorem flat_nats (ns : List Nat) : (ns.map vN).all flatV = true := by
  rw [List.all_eq_true]
  intro v hv
  obtain ⟨n, _, rfl⟩ := List.mem_map.mp hv
  rfl
section
variable {K : PySem.W.Frag} {σ : L2.St} {H H' : Hp} {ta tb te tx tl : TE} {t u : TT} {x y z v : V} {r : R2} {g : TG} {vs : List Nat}
theorem ev_any {bs : List Bool} (h : EvL ta σ H (bs.map V.bl)) : Ev (tCB (rAny K) (tCons ta tNil)) σ H (.bl (bs.any id)) := fun H1 e Q q =>
  h H1 e _ fun p H2 _ e2 h2 => ⟨p, bs, rfl, sq_of h2, q H2 e2⟩
theorem ev_all {bs : List Bool} (h : EvL ta σ H (bs.map V.bl)) : Ev (tCB (rAll K) (tCons ta tNil)) σ H (.bl (bs.all id)) := fun H1 e Q q =>
  h H1 e _ fun p H2 _ e2 h2 => ⟨p, bs, rfl, sq_of h2, q H2 e2⟩
theorem getD_some {α : Type} {l : List α} {i : Nat} {x d : α} (h : l[i]? = some x) : l.getD i d = x := by
  rw [List.getD_eq_getElem?_getD, h]; rfl
theorem list_ext_of {ys acc : List V} (hl : acc.length = ys.length) (h : ∀ (j : Nat) y, acc[j]? = some y → ys[j]? = some y) : acc = ys := by
  apply List.ext_getElem? 
  intro j
  cases e : acc[j]? with
  | some y => exact (h j y e).symm
  | none =>
    have := List.getElem?_eq_none_iff.mp e
    exact (List.getElem?_eq_none_iff.mpr (by omega)).symm
theorem dpall_of {ds : List PyData} : ∀ {acc : List V}, acc.length = ds.length → (∀ (j : Nat) y, acc[j]? = some y → ∃ d, ds[j]? = some d ∧ Dp K H y d) → DpAll K H acc ds := by
  induction ds with
  | nil => intro acc hl h; cases acc with
    | nil => exact .nil
    | cons a b => simp at hl
  | cons d ds ih => intro acc hl h; cases acc with
    | nil => simp at hl
    | cons a acc =>
      obtain ⟨d', e, hd⟩ := h 0 a rfl
      cases e
      exact .cons hd (ih (by simpa using hl) fun j y hy => by
        obtain ⟨d', e, hd⟩ := h (j + 1) y (by simpa using hy)
        exact ⟨d', by simpa using e, hd⟩)
/-- each item's value is known: over a list that stands, over a new list of data -/
theorem el_mapL {a : Addr} {xs ys : List V} (h : Ev tl σ H (.ref a)) (hx : SqL K H a xs) (hz : xs.length ≤ 16000000) (hl : xs.length = ys.length)
    (gm : ∀ x H' (P Q : L2.St → Hp → Prop), (∀ σ' H', P σ' H' → Q σ' H') → g x (wipe σ vs) H' P → g x (wipe σ vs) H' Q)
    (he : ∀ (i : Nat) x y H1, Ex H H1 → xs[i]? = some x → ys[i]? = some y → Elt g te vs σ H1 x (fun v _ => v = y)) : EvL (tLc (iList K tl) g tYes te vs) σ H ys := fun H1 e Q q =>
  lc_R (R := fun i v _ => ys[i]? = some v) (fun _ _ _ _ _ h => h) h hx hz gm (fun i x H1 e1 hi => by
    have hlt := (List.getElem?_eq_some_iff.mp hi).1
    have hy : ys[i]? = some ys[i] := List.getElem?_eq_getElem (by omega)
    exact fun H2 e2 Q q => he i x _ H1 e1 hi hy H2 e2 Q fun y H3 e3 ey => q y H3 e3 (by rw [ey]; exact hy)) H1 e Q fun p acc H2 hp e2 h2 hl2 hr => by
    have := list_ext_of (ys := ys) (by omega) hr
    subst this
    exact q p H2 hp e2 h2
theorem el_mapN {ds : List PyData} {ys : List V} (h : EvDL K tl σ H ds) (hn : tupDs ds = true) (hz : ds.length ≤ 16000000) (hl : ds.length = ys.length)
    (gm : ∀ x H' (P Q : L2.St → Hp → Prop), (∀ σ' H', P σ' H' → Q σ' H') → g x (wipe σ vs) H' P → g x (wipe σ vs) H' Q)
    (he : ∀ (i : Nat) d x y H1, Ex H H1 → ds[i]? = some d → Dp K H1 x d → ys[i]? = some y → Elt g te vs σ H1 x (fun v _ => v = y)) : EvL (tLc (iList K tl) g tYes te vs) σ H ys := fun H1 e Q q =>
  lc_RN (R := fun i v _ => ys[i]? = some v) (fun _ _ _ _ _ h => h) h hn hz gm (fun i d x H1 e1 hi hd => by
    have hlt := (List.getElem?_eq_some_iff.mp hi).1
    have hy : ys[i]? = some ys[i] := List.getElem?_eq_getElem (by omega)
    exact fun H2 e2 Q q => he i d x _ H1 e1 hi hd hy H2 e2 Q fun y H3 e3 ey => q y H3 e3 (by rw [ey]; exact hy)) H1 e Q fun p acc H2 hp e2 h2 hl2 hr => by
    have := list_ext_of (ys := ys) (by omega) hr
    subst this
    exact q p H2 hp e2 h2
theorem gm_name {j : Nat} {σ' : L2.St} : ∀ x H' (P Q : L2.St → Hp → Prop), (∀ σ' H', P σ' H' → Q σ' H') → gName j x σ' H' P → gName j x σ' H' Q := fun _ _ _ _ k h => k _ _ h
theorem elt_name {j : Nat} {R : V → Hp → Prop} (hw : wipe ((wipe σ vs).set j (some x)) vs = wipe σ vs) (he : ∀ H1, Ex H H1 → ∀ Q : VK, (∀ y H2, Ex H1 H2 → R y H2 → Q y H2) → te ((wipe σ vs).set j (some x)) H1 Q) : Elt (gName j) te vs σ H x R :=
  fun H1 e Q q => ⟨hw, he H1 e Q q⟩
theorem elt_ev {j : Nat} (hw : wipe ((wipe σ vs).set j (some x)) vs = wipe σ vs) (he : Ev te ((wipe σ vs).set j (some x)) H y) : Elt (gName j) te vs σ H x (fun v _ => v = y) :=
  fun H1 e Q q => ⟨hw, he H1 e Q fun H2 e2 => q y H2 e2 rfl⟩
/-- a target of three names -/
theorem gm_tup3 {σ' : L2.St} {i j k : Nat} : ∀ x H' (P Q : L2.St → Hp → Prop), (∀ σ' H', P σ' H' → Q σ' H') → gTup K 3 (gCons (gName i) (gCons (gName j) (gCons (gName k) gNil))) x σ' H' P → gTup K 3 (gCons (gName i) (gCons (gName j) (gCons (gName k) gNil))) x σ' H' Q := by
  rintro x H' P Q kk ⟨a, xs, e1, e2, e3, v1, r1, e4, v2, r2, e5, v3, r3, e6, e7, h⟩
  exact ⟨a, xs, e1, e2, e3, v1, r1, e4, v2, r2, e5, v3, r3, e6, e7, kk _ _ h⟩
theorem elt_tup3 {i j k : Nat} {a : Addr} {v1 v2 v3 : V} (ht : SqT K H a [v1, v2, v3]) (hw : wipe ((((wipe σ vs).set i (some v1)).set j (some v2)).set k (some v3)) vs = wipe σ vs)
    (he : Ev te ((((wipe σ vs).set i (some v1)).set j (some v2)).set k (some v3)) H y) : Elt (gTup K 3 (gCons (gName i) (gCons (gName j) (gCons (gName k) gNil)))) te vs σ H (.ref a) (fun v _ => v = y) :=
  fun H1 e Q q => ⟨a, _, rfl, ex_t e ht, rfl, _, _, rfl, _, _, rfl, _, _, rfl, rfl, hw, he H1 e Q fun H2 e2 => q y H2 e2 rfl⟩
/-- calls -/
theorem ev_cd {sp : Sp} {ta : TA} {as : List V} (h : EvA ta σ H as) (hs : ∀ H1, Ex H H1 → ∀ Q : VK, RetV z H1 Q → sp as H1 Q E0) : Ev (tCall sp [] E0 ta) σ H z := fun H1 e Q q =>
  h H1 e _ fun H2 e2 => by
    show sp (as ++ []) H2 Q E0
    rw [List.append_nil]
    exact hs H2 (e.trans e2) Q fun H3 e3 => q H3 (e2.trans e3)
theorem edl_cd {sp : Sp} {ta : TA} {as : List V} {ds : List PyData} (h : EvA ta σ H as) (hs : ∀ H1, Ex H H1 → ∀ Q : VK, RetDL K ds H1 Q → sp as H1 Q E0) : EvDL K (tCall sp [] E0 ta) σ H ds := fun H1 e Q q =>
  h H1 e _ fun H2 e2 => by
    show sp (as ++ []) H2 Q E0
    rw [List.append_nil]
    exact hs H2 (e.trans e2) Q (q.mono e2)
theorem el_cd {sp : Sp} {ta : TA} {as xs : List V} (h : EvA ta σ H as) (hs : ∀ H1, Ex H H1 → ∀ Q : VK, RetL xs H1 Q → sp as H1 Q E0) : EvL (tCall sp [] E0 ta) σ H xs := fun H1 e Q q =>
  h H1 e _ fun H2 e2 => by
    show sp (as ++ []) H2 Q E0
    rw [List.append_nil]
    exact hs H2 (e.trans e2) Q fun p H3 hp e3 h3 => q p H3 (fresh_back e2 hp) (e2.trans e3) h3
theorem ev_inD {d : PyData} {ds : List PyData} {p : Addr} (ha : ∀ H1, Ex H H1 → ∀ Q : VK, (∀ p H2, Ex H1 H2 → Dp K H2 (.ref p) d → Q (.ref p) H2) → ta σ H1 Q) (hb : ∀ H1, Ex H H1 → Ev tb σ H1 (.ref p)) (hp : LD K H p ds) (n : tupDs ds = true)
    (s1 : SeqAt.shaped d = true) (s2 : SeqAt.shaped (.list ds) = true) (hd : tupD d = true) : Ev (tOp (rInD K) ta tb) σ H (.bl (ds.any fun z => PyData.eqv z d)) := fun H1 e Q q =>
  ha H1 e _ fun p1 H2 e2 hq => hb H2 (e.trans e2) H2 (Ex.refl H2) _ fun H3 e3 =>
    ⟨d, ds, dp_tk (TK.of e3) d _ hd hq, (hp.ex n ((e.trans e2).trans e3)).dp, s1, s2, q H3 (e2.trans e3)⟩
end
section
variable {P : Program} {w : World} {K : PySem.W.Frag} {mg : Str → Option Value} {base : Heap}
/-- a def of the module keeps its promise -/
theorem gd_of {k : Nat} {x : Str} {st : Stmt} {f : Addr} {N ps : List Str} {sp : Sp} (d : ∃ fd, FunD K x x (defArgs st) (defBody st) (defScope st) [] [] f fd) (g : mg x = some (.ref f)) (S : FnScope N ps (defScope st))
    (len : ∀ vs H Q E, sp vs H Q E → vs.length = ps.length)
    (b : ∀ (kV doc pm : Value) (an : Option Addr) (cdv ct : Value) (us : List Value), us.length = ps.length → bindArgs (PySem.W.fnOf x x (defArgs st) (defBody st) (defScope st) .none kV doc pm an cdv ct) ⟨us, []⟩ = pure (ps.zip us))
    (body : ∀ (cdv : Value) (A : Around) (outer : List Env) (s : Shared) (H : Hp) (vs : List V) (Q : VK) (E : XK), Room k (A.deeper (envOfC x (defScope st) s.heap.objs.size f cdv)) → sp vs H Q E →
      ∃ t, PSs (cxOf CX0 P w K mg base N x (defScope st) f cdv A outer s H E).nox (defBody st) t ∧ t { nx := fun _ H' => Q .non H', rt := Q } (start N vs) H) : GD P w K mg base CX0 (k + 1) x ps sp := by
  obtain ⟨fd, F⟩ := d
  refine ⟨f, fd, F.ok S len fun cdv A outer s H vs Q E hr h => ?_, g, F.kp, F.bindsN b⟩
  obtain ⟨t, h1, h2⟩ := body cdv A outer s H vs Q E hr h
  exact ⟨t, h1.nox, h2⟩
/-- .. the row's own def -/
theorem fno_of {k : Nat} {x : Str} {st : Stmt} {f : Addr} {fd : FuncData} {N ps : List Str} {sp : Sp} (F : FunD K x x (defArgs st) (defBody st) (defScope st) [] [] f fd) (S : FnScope N ps (defScope st))
    (len : ∀ vs H Q E, sp vs H Q E → vs.length = ps.length)
    (body : ∀ (cdv : Value) (A : Around) (outer : List Env) (s : Shared) (H : Hp) (vs : List V) (Q : VK) (E : XK), Room k (A.deeper (envOfC x (defScope st) s.heap.objs.size f cdv)) → sp vs H Q E →
      ∃ t, PSs (cxOf CX0 P w K mg base N x (defScope st) f cdv A outer s H E).nox (defBody st) t ∧ t { nx := fun _ H' => Q .non H', rt := Q } (start N vs) H) : FnOk P w K mg base CX0 (k + 1) f fd ps sp := by
  refine F.ok S len fun cdv A outer s H vs Q E hr h => ?_
  obtain ⟨t, h1, h2⟩ := body cdv A outer s H vs Q E hr h
  exact ⟨t, h1.nox, h2⟩
/-- a method -/
theorem md_of {k : Nat} {x q : Str} {st : Stmt} {f C : Addr} {N ps : List Str} {sp : Sp} (d : ∃ fd, FunD K x q (defArgs st) (defBody st) (defScope st) [] [] f fd) (c : Cls K C) (m : Meth K C x f) (S : FnScope N ps (defScope st))
    (len : ∀ vs H Q E, sp vs H Q E → vs.length = ps.length)
    (b : ∀ (kV doc pm : Value) (an : Option Addr) (cdv ct : Value) (us : List Value), us.length = ps.length → bindArgs (PySem.W.fnOf x q (defArgs st) (defBody st) (defScope st) .none kV doc pm an cdv ct) ⟨us, []⟩ = pure (ps.zip us))
    (body : ∀ (cdv : Value) (A : Around) (outer : List Env) (s : Shared) (H : Hp) (vs : List V) (Q : VK) (E : XK), Room k (A.deeper (envOfC q (defScope st) s.heap.objs.size f cdv)) → sp vs H Q E →
      ∃ t, PSs (cxOf CX0 P w K mg base N q (defScope st) f cdv A outer s H E).nox (defBody st) t ∧ t { nx := fun _ H' => Q .non H', rt := Q } (start N vs) H) : MD P w K mg base CX0 (k + 1) C x ps sp := by
  obtain ⟨fd, F⟩ := d
  refine ⟨f, fd, F.ok S len fun cdv A outer s H vs Q E hr h => ?_, c, m, F.bindsN b⟩
  obtain ⟨t, h1, h2⟩ := body cdv A outer s H vs Q E hr h
  exact ⟨t, h1.nox, h2⟩
end
end BA
namespace BA
open PySem PySem.Spec PyProof.Rows L2 Evl
open Ks480 (Bid)
open BP (T3)
theorem tupDs_mem : ∀ {ds : List PyData}, tupDs ds = true → ∀ d ∈ ds, tupD d = true
  | [], _, d, hd => by cases hd
  | a :: l, hn, d, hd => by
    have n' : (tupD a && tupDs l) = true := hn
    rw [Bool.and_eq_true] at n'
    rcases List.mem_cons.mp hd with rfl | hd
    · exact n'.1
    · exact tupDs_mem n'.2 d hd
theorem rgC_up (n c : Nat) (hc : 0 < c) (hc2 : c < 100) (hn : n ≤ 100000) (hd : n % c = 0) : RgC 0 (n : Int) (c : Int) (n / c) := by
  have e : Builtin.Range.rangeSize 0 (n : Int) (c : Int) = ((n / c : Nat) : Int) := by
    unfold Builtin.Range.rangeSize
    rw [if_pos (by omega)]
    by_cases h0 : n = 0
    · subst h0; simp
    · rw [if_pos (by omega)]
      obtain ⟨q, rfl⟩ := Nat.dvd_of_mod_eq_zero hd
      rw [Nat.mul_div_cancel_left q hc]
      have hq : 0 < q := Nat.pos_of_ne_zero fun z => h0 (by rw [z]; rfl)
      have : ((c * q : Nat) : Int) - 0 - 1 = ((c : Int) - 1) + (c : Int) * ((q : Int) - 1) := by
        rw [Int.natCast_mul, Int.mul_sub, Int.mul_one]; omega
      rw [this, Int.add_mul_ediv_left _ _ (by omega : (c : Int) ≠ 0), Int.ediv_eq_zero_of_lt (by omega) (by omega)]
      omega
  refine ⟨by omega, by omega, ?_, e⟩
  unfold Builtin.Range.small
  rw [e]
  have h1 : n / c ≤ n := Nat.div_le_self n c
  generalize n / c = q at h1
  rw [if_pos (show (c : Int) > 0 by omega)]
  simp only [Builtin.Range.rangeFitsLong, Bool.and_eq_true, Bool.or_eq_true, decide_eq_true_eq, beq_iff_eq]
  omega
section
variable {K : PySem.W.Frag} {σ : L2.St} {H H' : Hp} {ta tb te tx tl : TE} {t u : TT} {x y z v : V} {r : R2} {g : TG} {vs : List Nat}
/-- a comprehension over range(0, n, c) whose items are data -/
theorem edl_range3 {ta : TA} {j : Nat} {ds : List PyData} {n c : Nat} (h : EvA ta σ H [.int 0, vN n, vN c]) (hr : RgC 0 (n : Int) (c : Int) ds.length) (hz : ds.length ≤ 16000000) (hn : tupDs ds = true)
    (he : ∀ (i : Nat) d H1, Ex H H1 → ds[i]? = some d → Elt (gName j) te vs σ H1 (vN (i * c)) (fun v H => Dp K H v d)) : EvDL K (tLc (iRng3 ta) (gName j) tYes te vs) σ H ds := fun H0 e Q q => h H0 e _ fun H1 e1 => by
  refine ⟨0, n, c, ds.length, rfl, hr, fun Dl hD => ?_⟩
  refine lc_rangeC (CwR H1 (fun i v H => ∃ d, ds[i]? = some d ∧ Dp K H v d) Dl) ⟨hD, Ex.new hD, [], upd_same, rfl, fun j y z => by simp at z⟩ (fun i H' hi p => ?_) (fun H' p => ?_)
  · have ed : ds[i]? = some ds[i] := List.getElem?_eq_getElem hi
    have td := tupDs_mem hn
    have e0 : (0 : Int) + ((i : Nat) : Int) * (c : Int) = ((i * c : Nat) : Int) := by rw [Int.zero_add, Int.natCast_mul]
    show gName j (V.int ((0 : Int) + ((i : Nat) : Int) * (c : Int))) _ _ _
    rw [e0]
    exact cwr_turn (fun j y H H' tk ⟨d, h1, h2⟩ => ⟨d, h1, dp_tk tk d _ (td d (List.mem_of_getElem? h1)) h2⟩) p (by omega)
      (fun H2 e2 Q q => he i _ H1 (e.trans e1) ed H2 e2 Q fun y H3 e3 h3 => q y H3 e3 ⟨_, ed, h3⟩) (fun P Q k h => k _ _ h)
  · obtain ⟨p1, p2, acc, p3, p4, p5⟩ := p
    exact q Dl acc H' (fresh_back e1 p1) (e1.trans p2) p3 (dpall_of p4 p5)
theorem rv_lt {i j : Int} : RV (rI0 fun i j => .bl (decide (i < j))) (.int i) (.int j) H (.bl (decide (i < j))) := rv_I0
theorem ev_sum {a : Addr} {ns : List Int} (ha : Ev ta σ H (.ref a)) (h : SqL K H a (ns.map V.int)) : Ev (tCB (rSum K) (tCons ta tNil)) σ H (.int ns.sum) := fun H1 e Q q =>
  ha H1 e _ fun H2 e2 => ⟨a, ns, rfl, ex_l (e.trans e2) h, q H2 e2⟩
theorem ev_lenL {a : Addr} {xs : List V} (ha : Ev ta σ H (.ref a)) (h : SqL K H a xs) : Ev (tCB (fun xs H Q => ∃ p ys, xs = [.ref p] ∧ (SqL K H p ys ∨ SqT K H p ys) ∧ Q (.int ys.length) H) (tCons ta tNil)) σ H (.int (xs.length : Int)) := ev_len ha h
/-- s: the tuple of a bid being looked for -/
theorem ep_tupB {ta : TA} {b : Bid} (h : EvA ta σ H [vN b.kind, vN b.a, vN b.b, vN b.c]) : ∀ H1, Ex H H1 → ∀ Q : VK, (∀ p H2, Ex H1 H2 → Dp K H2 (.ref p) (eB b) → Q (.ref p) H2) → tTup ta σ H1 Q := fun H1 e Q q =>
  h H1 e _ fun H2 e2 => ⟨by show 4 ≤ sizeLine; decide, fun p hp => q p _ (e2.trans (Ex.new hp)) (B_dp (SqT.of upd_same))⟩
theorem sqt_ex {a : Addr} {xs : List V} (h : SqT K H a xs) (e : Ex H H') : SqT K H' a xs := ex_t e h
/-- an item of a list of bids -/
theorem at_B {a : Addr} {bs : List Bid} {i : Nat} {b : Bid} (h : LD K H a (bs.map eB)) (hb : bs[i]? = some b) (hta : Ev ta σ H (.ref a)) (htb : Ev tb σ H (vN i)) :
    ∃ p, Ev (tOp (rIxL K) ta tb) σ H (.ref p) ∧ SqT K H p [vN b.kind, vN b.a, vN b.b, vN b.c] := by
  obtain ⟨xs, h1, h2⟩ := h
  obtain ⟨v, e1, e2⟩ := dpall_get (i := i) (d := eB b) h2 (by rw [List.getElem?_map, hb]; rfl)
  obtain ⟨p, rfl, e3⟩ := dp_B e2
  exact ⟨p, ev_op hta htb (rv_ixL h1 (atI_nat e1)), e3⟩
theorem ev_ixT {p : Addr} {xs : List V} {i : Nat} (ha : Ev ta σ H (.ref p)) (h : SqT K H p xs) (hv : xs[i]? = some v) (hb : Ev tb σ H (vN i) := by exact ev_c) : Ev (tOp (rIxT K) ta tb) σ H v := ev_op ha hb (rv_ixT h (atI_nat hv))
theorem ev_ixL {p : Addr} {xs : List V} {i : Nat} (ha : Ev ta σ H (.ref p)) (h : SqL K H p xs) (hb : Ev tb σ H (vN i)) (hv : xs[i]? = some v) : Ev (tOp (rIxL K) ta tb) σ H v := ev_op ha hb (rv_ixL h (atI_nat hv))
theorem LD.len {a : Addr} {ds : List PyData} (h : LD K H a ds) : ∃ xs, SqL K H a xs ∧ xs.length = ds.length := by
  obtain ⟨xs, h1, h2⟩ := h
  exact ⟨xs, h1, dpall_len h2⟩
theorem ev_lenD {a : Addr} {ds : List PyData} (ha : Ev ta σ H (.ref a)) (h : LD K H a ds) : Ev (tCB (fun xs H Q => ∃ p ys, xs = [.ref p] ∧ (SqL K H p ys ∨ SqT K H p ys) ∧ Q (.int ys.length) H) (tCons ta tNil)) σ H (.int (ds.length : Int)) := by
  obtain ⟨xs, h1, h2⟩ := h.len
  rw [← h2]
  exact ev_lenL ha h1
theorem dec_eqN (a b : Nat) : decide (V.int (a : Int) = V.int (b : Int)) = decide (a = b) := by
  by_cases h : a = b
  · subst h; simp
  · rw [decide_eq_false h]
    exact decide_eq_false fun z => h (by injection z with z; omega)
theorem dec_eqI (a b : Int) : decide (V.int a = V.int b) = decide (a = b) := by
  by_cases h : a = b
  · subst h; simp
  · rw [decide_eq_false h]
    exact decide_eq_false fun z => h (by injection z)
theorem ev_eqN {a b : Nat} (ha : Ev ta σ H (vN a)) (hb : Ev tb σ H (vN b)) : Ev (tOp rEq ta tb) σ H (.bl (decide (a = b))) := ev_is (ev_op ha hb (rv_eq rfl)) (by rw [dec_eqN])
theorem ev_neN {a b : Nat} (ha : Ev ta σ H (vN a)) (hb : Ev tb σ H (vN b)) : Ev (tOp rNe ta tb) σ H (.bl (!decide (a = b))) := ev_is (ev_op ha hb (rv_ne rfl)) (by rw [dec_eqN])
end
end BA
namespace BA
open PySem PySem.Spec PyProof.Rows L2 Evl
open Ks480 (Bid)
open BP (T3)
open PySem.W (Codec)
section
variable {K : PySem.W.Frag} {σ : L2.St} {H H' : Hp} {ta tb te tx tl : TE} {t u : TT} {x y z v : V} {r : R2} {g : TG} {vs : List Nat} {D : Ends} {tz tu tw : TS}
theorem q_asgDL {i : Nat} {ds : List PyData} (h : EvDL K te σ H ds) (k : ∀ p xs H1, H p = none → Ex H H1 → H1 p = some (.lst xs) → DpAll K H1 xs ds → tz D (σ.set i (some (.ref p))) H1) : tSeq (tAsg te (gName i)) tz D σ H :=
  h H (Ex.refl H) _ fun p xs H1 hp e h1 hd => k p xs H1 hp e h1 hd
theorem s_asgDL {i : Nat} {ds : List PyData} (h : EvDL K te σ H ds) (k : ∀ p xs H1, H p = none → Ex H H1 → H1 p = some (.lst xs) → DpAll K H1 xs ds → D.nx (σ.set i (some (.ref p))) H1) : tAsg te (gName i) D σ H :=
  h H (Ex.refl H) _ fun p xs H1 hp e h1 hd => k p xs H1 hp e h1 hd
theorem el_cat {xs ys : List V} (ha : EvL ta σ H xs) (hb : ∀ H1, Ex H H1 → EvL tb σ H1 ys) (hz : xs.length + ys.length ≤ 1000000) : EvL (tOp rCat ta tb) σ H (xs ++ ys) := fun H1 e Q q =>
  ha H1 e _ fun p H2 hp e2 h2 => hb H2 (e.trans e2) H2 (Ex.refl H2) _ fun p' H3 hp' e3 h3 => ⟨p, p', xs, ys, rfl, rfl, e3 p _ h2, h3, Nat.le_trans hz (by decide), fun l hl =>
    q l _ (fresh_back (e2.trans e3) hl) ((e2.trans e3).trans (Ex.new hl)) upd_same⟩
/-- a list made, then a list that stands, appended -/
theorem el_catS {xs ys : List V} {p' : Addr} (ha : EvL ta σ H xs) (hb : ∀ H1, Ex H H1 → Ev tb σ H1 (.ref p')) (hp' : H p' = some (.lst ys)) (hz : xs.length + ys.length ≤ 1000000) : EvL (tOp rCat ta tb) σ H (xs ++ ys) := fun H1 e Q q =>
  ha H1 e _ fun p H2 hp e2 h2 => hb H2 (e.trans e2) H2 (Ex.refl H2) _ fun H3 e3 => ⟨p, p', xs, ys, rfl, rfl, e3 p _ h2, e3 _ _ (e2 _ _ (e _ _ hp')), Nat.le_trans hz (by decide), fun l hl =>
    q l _ (fresh_back (e2.trans e3) hl) ((e2.trans e3).trans (Ex.new hl)) upd_same⟩
end
/-- the row's end, where the written part is told by a hook -/
theorem walk_specE {r : PySem.W.OpenSpec} {k : Nat} {q : Program} {loose : List Str} {XP : (Str → Option Value) → Heap → Prop} {YP : World → Heap → Prop} {d : DefRec} {ps : List Str}
    (hwell : r.wellSaid = true) (hdf : d.params.defaults = []) (hlen : r.args.length = ps.length) (hr : Room k callerA)
    (F : ∀ (w : World) (mg : Str → Option Value) (fa : Addr) (h : Heap), YP w h → h.Ns mainGlobals mg → mg d.name = some (.ref fa) →
      ∃ (K : PySem.W.Frag) (fd : FuncData) (sp : Sp), K.In h ∧ (∀ (s : Shared) (us : List Value), us.length = ps.length → BindsTo s fd ⟨us, []⟩ (ps.zip us)) ∧
        (∀ (H : Hp) (xs : List V) (a : Codec.denoteAll r.args), OnlyF H → Codec.withinAll r.args a = true → Codec.app r.args r.asked a = true → DwAll K H xs (Codec.encAll r.args a) →
          sp xs H (fun v H' => Dw K H' v (r.ret.enc (Codec.app r.args r.f a))) fun _ _ _ => False) ∧
        ∀ base : Heap, K.In base → base.Ns mainGlobals mg → FnOk r.prog w K mg base CX0 k fa fd ps sp) :
    PySem.W.WalkOS q loose XP YP r d [] (fun f vs => PySem.call f vs) := by
  intro w s₀ s₁ mg mb G Y fa o pm cd doc dV kV ho hd hcd hD hmg hg args vals as hpre hlay hrd hwl hlo
  obtain ⟨a, e1, e2⟩ := PySem.W.os_pre_some hpre
  obtain ⟨e3, hwi⟩ := Codec.encAll_of_decAll r.args args a e1
  subst e3
  obtain ⟨K, fd, sp, KX, hb, hsp, hF⟩ := F w mg fa _ Y G.T.g hmg
  refine PySem.W.enter_call (codeAny_mono (spec_call (R := []) (cl := classAt s₀.heap) (d0 := r.ret.enc (Codec.app r.args r.f a)) KX G.T.g G.T.b G.T.builtins G.T.nolimit hg hwl (pl_encAll _ _) (layable_weight hlay) hr hF hb (by rw [encAll_len]; exact hlen)
    (fun H xs hO hS => hsp H xs a hO hwi e2 hS) fun H e s' z => z) fun r' s' hq => ?_)
  obtain ⟨u, as', rfl, h1, h2, h3, h4⟩ := hq
  exact ⟨.inl ⟨u, _, as', rfl, fun _ => rfl, h1, (PySem.W.OpenSpec.post_iff hwell hwi _ _).mpr rfl, fun z => Bool.noConfusion (show false = true from z)⟩, h2, h3, h4⟩
theorem nats_of {l : List Int} {hi : Int} (h : l.all (Codec.inInt 0 hi) = true) : l.map V.int = (l.map Int.toNat).map vN := by
  rw [List.map_map]
  apply List.map_congr_left
  intro x hx
  have := List.all_eq_true.mp h x hx
  have h0 : 0 ≤ x := by
    unfold Codec.inInt at this
    simp only [Bool.and_eq_true, decide_eq_true_eq] at this
    exact this.1
  show V.int x = V.int ((x.toNat : Nat) : Int)
  rw [Int.toNat_of_nonneg h0]
end BA
/-! ## P2: the book's tests are the specification's -/
namespace BP
open Ks480 (Bid Ev)
open Ks482 (Book)
def toEv : T3 → Ev
  | (0, i, x) => .done i x
  | (1, i, x) => .failed i x
  | (2, i, _) => .off i
  | (3, i, _) => .fired i
  | (4, c, x) => .word c x
  | _ => .callOff
theorem ev_is (k i x : Nat) : Ks480.ev k i x = if isThree k i x = true then some (toEv (k, i, x)) else none := by
  match k, i, x with
  | 0, _, _ => rfl
  | 1, _, _ => rfl
  | 2, _, 0 => rfl
  | 2, _, _ + 1 => rfl
  | 3, _, 0 => rfl
  | 3, _, _ + 1 => rfl
  | 4, _, _ => rfl
  | 5, 0, 0 => rfl
  | 5, 0, _ + 1 => rfl
  | 5, _ + 1, _ => rfl
  | n + 6, i, x =>
    have : isThree (n + 6) i x = false := by
      unfold isThree
      rw [if_neg (by omega), if_neg (by omega)]
      simp
    rw [this]; rfl
theorem evs_is : ∀ h : List Nat, Ks480.evs h = if h.length % 3 = 0 ∧ ((threes h).all fun t => isThree t.1 t.2.1 t.2.2) = true then some ((threes h).map toEv) else none
  | [] => rfl
  | [_] => rfl
  | [_, _] => rfl
  | k :: i :: x :: l => by
    have ih := evs_is l
    unfold Ks480.evs
    rw [ih, ev_is]
    have hl : (k :: i :: x :: l).length % 3 = l.length % 3 := by simp only [List.length_cons]; omega
    by_cases h1 : isThree k i x = true
    · by_cases h2 : l.length % 3 = 0 ∧ ((threes l).all fun t => isThree t.1 t.2.1 t.2.2) = true
      · rw [if_pos h1, if_pos h2, if_pos ⟨hl.trans h2.1, by show (isThree k i x && (threes l).all fun t => isThree t.1 t.2.1 t.2.2) = true; rw [h1, h2.2]; rfl⟩]
        rfl
      · rw [if_pos h1, if_neg h2, if_neg]
        rintro ⟨q1, q2⟩
        have q3 : (isThree k i x && (threes l).all fun t => isThree t.1 t.2.1 t.2.2) = true := q2
        rw [h1, Bool.true_and] at q3
        exact h2 ⟨hl.symm.trans q1, q3⟩
    · have hn : ¬ ((k :: i :: x :: l).length % 3 = 0 ∧ ((threes (k :: i :: x :: l)).all fun t => isThree t.1 t.2.1 t.2.2) = true) := by
        rintro ⟨q1, q2⟩
        have q3 : (isThree k i x && (threes l).all fun t => isThree t.1 t.2.1 t.2.2) = true := q2
        rw [Bool.and_eq_true] at q3
        exact h1 q3.1
      rw [if_neg h1, if_neg hn]
theorem bidsOf_is : ∀ b : List Nat, Ks482.bidsOf b = if areBids b = true then some (fours b) else none
  | [] => rfl
  | [_] => rfl
  | [_, _] => rfl
  | [_, _, _] => rfl
  | k :: i :: x :: y :: l => by
    have ih := bidsOf_is l
    unfold Ks482.bidsOf
    rw [ih]
    have e : areBids (k :: i :: x :: y :: l) = (decide (k ≤ 6) && areBids l) := by
      unfold areBids
      have h4 : (k :: i :: x :: y :: l).length % 4 = l.length % 4 := by simp only [List.length_cons]; omega
      rw [h4]
      show (decide (l.length % 4 = 0) && (decide (k ≤ 6) && (fours l).all fun b => decide (b.kind ≤ 6))) = _
      cases decide (l.length % 4 = 0) <;> cases decide (k ≤ 6) <;> rfl
    rw [e]
    unfold Ks482.bidOf
    by_cases h1 : k ≤ 6
    · rw [if_pos h1, decide_eq_true h1, Bool.true_and]
      by_cases h2 : areBids l = true
      · rw [if_pos h2, if_pos h2]; rfl
      · rw [if_neg h2, if_neg h2]
    · rw [if_neg h1, decide_eq_false h1, Bool.false_and, if_neg Bool.false_ne_true]
def pagesOf : List Nat → List Bid → List (List Bid)
  | [], _ => []
  | n :: l, b => b.take n :: pagesOf l (b.drop n)
theorem cut_is : ∀ (s : List Nat) (b : List Bid), Ks482.cut s b = if s.sum = b.length then some (pagesOf s b) else none
  | [], [] => rfl
  | [], _ :: _ => by rw [if_neg (by simp)]; rfl
  | n :: l, b => by
    unfold Ks482.cut
    rw [cut_is l, List.sum_cons, List.length_drop]
    by_cases h : b.length < n
    · rw [if_pos h, if_neg (by omega)]
    · rw [if_neg h]
      by_cases h2 : l.sum = b.length - n
      · rw [if_pos h2, if_pos (by omega)]; rfl
      · rw [if_neg h2, if_neg (by omega)]
theorem pagesOf_len : ∀ (s : List Nat) (b : List Bid), (pagesOf s b).length = s.length
  | [], _ => rfl
  | n :: l, b => congrArg (· + 1) (pagesOf_len l _)
theorem pagesOf_all : ∀ (s : List Nat) (b : List Bid), s.sum = b.length → (pagesOf s b).flatten = b
  | [], b, h => by
    have : b = [] := List.length_eq_zero_iff.mp h.symm
    rw [this]; rfl
  | n :: l, b, h => by
    rw [List.sum_cons] at h
    show b.take n ++ (pagesOf l (b.drop n)).flatten = b
    rw [pagesOf_all l _ (by rw [List.length_drop]; omega), List.take_append_drop]
/-- the book, where it is one -/
def bookM (h s b : List Nat) : Book := ⟨(pagesOf s (fours b)).headD [], ((threes h).map toEv).zip (pagesOf s (fours b)).tail⟩
theorem hap_split {h : List Nat} : areHap h = true ↔ (h.length % 3 = 0 ∧ ((threes h).all fun t => isThree t.1 t.2.1 t.2.2) = true) ∧ h.length ≤ 180 := by
  unfold areHap
  by_cases c : h.length % 3 ≠ 0 ∨ h.length > 180
  · rw [if_pos c]
    exact ⟨fun z => (by cases z), fun z => by omega⟩
  · rw [if_neg c]
    exact ⟨fun z => ⟨⟨by omega, z⟩, by omega⟩, fun z => z.1.2⟩
theorem bookOf_is (h s b : List Nat) : Ks482.bookOf h s b = if isBook h s b = true then some (bookM h s b) else none := by
  unfold Ks482.bookOf isBook
  rw [evs_is, bidsOf_is]
  by_cases ha : h.length % 3 = 0 ∧ ((threes h).all fun t => isThree t.1 t.2.1 t.2.2) = true
  · rw [if_pos ha]
    by_cases hb : areBids b = true
    · rw [if_pos hb]
      simp only [List.length_map, threes_len h ha.1]
      by_cases hm : h.length ≤ 180
      · rw [if_neg (show ¬ Ks480.MOST < h.length / 3 by show ¬ 60 < _; omega)]
        have h1 : areHap h = true := hap_split.mpr ⟨ha, hm⟩
        rw [h1, hb]
        simp only [Bool.not_true, Bool.false_eq_true, or_self, if_false]
        have hb4 : b.length % 4 = 0 := by
          unfold areBids at hb
          rw [Bool.and_eq_true, decide_eq_true_eq] at hb
          exact hb.1
        rw [cut_is, fours_len b hb4]
        by_cases hs : s.sum = b.length / 4
        · rw [if_pos hs]
          cases s with
          | nil =>
            rw [if_neg]
            · rfl
            · rw [Bool.and_eq_true, decide_eq_true_eq]
              rintro ⟨z, _⟩
              simp at z
          | cons n l =>
            show (if (pagesOf l ((fours b).drop n)).length = h.length / 3 then _ else _) = _
            rw [pagesOf_len]
            by_cases hl : l.length = h.length / 3
            · rw [if_pos hl, if_pos]
              · rfl
              · rw [Bool.and_eq_true, decide_eq_true_eq, decide_eq_true_eq]
                refine ⟨by simp; omega, by omega⟩
            · rw [if_neg hl, if_neg]
              rw [Bool.and_eq_true, decide_eq_true_eq]
              rintro ⟨z, _⟩
              simp at z
              omega
        · rw [if_neg hs, if_neg]
          rw [Bool.and_eq_true, decide_eq_true_eq, decide_eq_true_eq]
          rintro ⟨_, z⟩
          omega
      · rw [if_pos (show Ks480.MOST < h.length / 3 by show 60 < _; omega)]
        have h1 : areHap h = false := by
          cases e : areHap h with
          | false => rfl
          | true => exact absurd (hap_split.mp e).2 hm
        rw [h1, Bool.not_false, if_pos (Or.inl rfl), if_neg Bool.false_ne_true]
    · rw [if_neg hb]
      have hb' : areBids b = false := by simpa using hb
      rw [hb', Bool.not_false, if_pos (Or.inr rfl), if_neg Bool.false_ne_true]
  · rw [if_neg ha]
    have h1 : areHap h = false := by
      cases e : areHap h with
      | false => rfl
      | true => exact absurd (hap_split.mp e).1 ha
    rw [h1, Bool.not_false, if_pos (Or.inl rfl), if_neg Bool.false_ne_true]
/-- what a book's parts are -/
structure IsB (h s b : List Nat) : Prop where
  h3 : h.length % 3 = 0
  all : ((threes h).all fun t => isThree t.1 t.2.1 t.2.2) = true
  h180 : h.length ≤ 180
  b4 : b.length % 4 = 0
  k6 : ((fours b).all fun b => decide (b.kind ≤ 6)) = true
  sl : s.length = h.length / 3 + 1
  sum : s.sum = (fours b).length
theorem isB {h s b : List Nat} (e : isBook h s b = true) : IsB h s b := by
  unfold isBook at e
  split at e
  · cases e
  · rename_i c
    simp only [Bool.not_eq_true', not_or, Bool.not_eq_false] at c
    obtain ⟨c1, c2⟩ := c
    obtain ⟨⟨q1, q2⟩, q3⟩ := hap_split.mp c1
    unfold areBids at c2
    rw [Bool.and_eq_true, decide_eq_true_eq] at c2
    rw [Bool.and_eq_true, decide_eq_true_eq, decide_eq_true_eq] at e
    exact ⟨q1, q2, q3, c2.1, c2.2, by omega, by rw [fours_len b c2.1]; omega⟩
theorem bookM_rest {h s b : List Nat} (e : IsB h s b) : ((bookM h s b).rest.map fun p => p.1) = (threes h).map toEv ∧ ((bookM h s b).rest.map fun p => p.2) = (pagesOf s (fours b)).tail ∧ (bookM h s b).first :: (pagesOf s (fours b)).tail = pagesOf s (fours b) := by
  have hl : (pagesOf s (fours b)).length = h.length / 3 + 1 := by rw [pagesOf_len, e.sl]
  have ht : (threes h).length = h.length / 3 := threes_len h e.h3
  refine ⟨?_, ?_, ?_⟩
  · unfold bookM
    exact List.map_fst_zip (by rw [List.length_map, List.length_tail]; omega)
  · unfold bookM
    exact List.map_snd_zip (by rw [List.length_map, List.length_tail]; omega)
  · unfold bookM
    cases q : pagesOf s (fours b) with
    | nil => rw [q] at hl; simp at hl
    | cons a r => rfl
theorem bookM_all {h s b : List Nat} (e : IsB h s b) : Ks482.allBids (bookM h s b) = fours b := by
  obtain ⟨_, h2, h3⟩ := bookM_rest e
  unfold Ks482.allBids
  have : (bookM h s b).rest.flatMap (fun p => p.2) = ((bookM h s b).rest.map fun p => p.2).flatten := by rw [List.flatMap]
  rw [this, h2]
  have := pagesOf_all s (fours b) e.sum
  rw [← h3] at this
  exact this
theorem toEv_ans (t : T3) (i : Nat) (h : isThree t.1 t.2.1 t.2.2 = true) : Ks482.answered i (toEv t) = (decide (t.1 ∈ [0, 1, 2]) && decide (t.2.1 = i)) := by
  obtain ⟨k, j, x⟩ := t
  match k with
  | 0 => show (i == j) = _; rw [Bool.eq_iff_iff]; simp; exact eq_comm
  | 1 => show (i == j) = _; rw [Bool.eq_iff_iff]; simp; exact eq_comm
  | 2 => show (i == j) = _; rw [Bool.eq_iff_iff]; simp; exact eq_comm
  | 3 => rfl
  | 4 => rfl
  | n + 5 => simp [toEv, Ks482.answered]
theorem toEv_fired (t : T3) (i : Nat) (h : isThree t.1 t.2.1 t.2.2 = true) : (toEv t == Ev.fired i) = (decide (t.1 ∈ [3]) && decide (t.2.1 = i)) := by
  obtain ⟨k, j, x⟩ := t
  rw [Bool.eq_iff_iff, beq_iff_eq]
  match k with
  | 0 => simp [toEv]
  | 1 => simp [toEv]
  | 2 => simp [toEv]
  | 3 => simp [toEv]
  | 4 => simp [toEv]
  | n + 5 => simp [toEv]
theorem toEv_off (t : T3) (h : isThree t.1 t.2.1 t.2.2 = true) : (toEv t == Ev.callOff) = decide (t.1 = 5) := by
  obtain ⟨k, j, x⟩ := t
  rw [Bool.eq_iff_iff, beq_iff_eq, decide_eq_true_eq]
  match k with
  | 0 => simp [toEv]
  | 1 => simp [toEv]
  | 2 => simp [toEv]
  | 3 => simp [toEv]
  | 4 => simp [toEv]
  | 5 => simp [toEv]
  | n + 6 =>
    have h' : isThree (n + 6) j x = true := h
    unfold isThree at h'
    rw [if_neg (by omega), if_neg (by omega)] at h'
    simp at h'
theorem any_ev {α : Type} {l : List (Ev × α)} {ts : List T3} (e : (l.map fun p => p.1) = ts.map toEv) (f : Ev → Bool) : (l.any fun p => f p.1) = ts.any fun t => f (toEv t) := by
  have h1 : (l.any fun p => f p.1) = (l.map fun p => p.1).any f := by rw [List.any_map]; rfl
  rw [h1, e, List.any_map]; rfl
theorem any_congr {l : List T3} {f g : T3 → Bool} (h : ∀ t ∈ l, f t = g t) : l.any f = l.any g := by
  induction l with
  | nil => rfl
  | cons a l ih => rw [List.any_cons, List.any_cons, h a List.mem_cons_self, ih fun t ht => h t (List.mem_cons_of_mem _ ht)]
/-- over any book whose threes and bids are these: open, called off, timers -/
theorem asks_gen {B : Book} {ts : List T3} {bs : List Bid} (h1 : (B.rest.map fun p => p.1) = ts.map toEv) (h2 : Ks482.allBids B = bs) (h3 : (ts.all fun t => isThree t.1 t.2.1 t.2.2) = true) :
    Ks482.asksOf B = openList (isOpen ts bs) bs.length := by
  unfold Ks482.asksOf Ks482.kinds openList
  rw [h2, List.filter_filter]
  apply List.filter_congr
  intro i hi
  unfold isOpen isKind isHap
  rw [any_ev h1 (Ks482.answered i), any_congr (g := fun t => decide (t.1 ∈ [0, 1, 2]) && decide (t.2.1 = i)) fun t ht => toEv_ans t i (List.all_eq_true.mp h3 t ht), Bool.and_comm]
  congr 1
theorem offs_gen {B : Book} {ts : List T3} {bs : List Bid} (h1 : (B.rest.map fun p => p.1) = ts.map toEv) (h2 : Ks482.allBids B = bs) (h3 : (ts.all fun t => isThree t.1 t.2.1 t.2.2) = true) :
    Ks482.offsOf B = openList (isStepOff ts bs) bs.length := by
  unfold Ks482.offsOf
  rw [asks_gen h1 h2 h3, h2]
  unfold openList
  rw [List.filter_filter]
  apply List.filter_congr
  intro i hi
  exact Bool.and_comm _ _
theorem timers_gen {B : Book} {ts : List T3} {bs : List Bid} (h1 : (B.rest.map fun p => p.1) = ts.map toEv) (h2 : Ks482.allBids B = bs) (h3 : (ts.all fun t => isThree t.1 t.2.1 t.2.2) = true) :
    Ks482.timersOf B = openList (isTimer ts bs) bs.length := by
  unfold Ks482.timersOf Ks482.kinds openList
  rw [h2, List.filter_filter]
  apply List.filter_congr
  intro i hi
  rw [any_ev h1 (fun e => e == Ev.fired i), any_congr (g := fun t => decide (t.1 ∈ [3]) && decide (t.2.1 = i)) fun t ht => toEv_fired t i (List.all_eq_true.mp h3 t ht)]
  unfold isTimer isBidden
  have e : isKind bs 1 i = (match bs[i]? with | some b => b.kind == 1 | none => false) := by
    unfold isKind
    cases bs[i]? with
    | none => rfl
    | some b => show decide (b.kind = 1) = (b.kind == 1); rw [Bool.eq_iff_iff]; simp
  have e' : (match bs[i]? with
    | some b => b.kind == 1
    | none => false) = isKind bs 1 i := e.symm
  show ((!bs.contains ⟨2, i, 0, 0⟩ && !ts.any fun t => decide (t.1 ∈ [3]) && decide (t.2.1 = i)) && _) = _
  refine (congrArg (fun z => (!bs.contains ⟨2, i, 0, 0⟩ && !ts.any fun t => decide (t.1 ∈ [3]) && decide (t.2.1 = i)) && z) e').trans ?_
  unfold isHap
  cases isKind bs 1 i <;> cases bs.contains ⟨2, i, 0, 0⟩ <;> simp
def openAns (h s b : List Nat) : List Int := if isBook h s b = true then (openOf h b).map fun (n : Nat) => (n : Int) else [-22]
theorem open_is (h s b : List Int) : PyKs482.open_of h s b = openAns (h.map Int.toNat) (s.map Int.toNat) (b.map Int.toNat) := by
  show Ks482Neutral.out (Ks482.book (h.map Int.toNat) (s.map Int.toNat) (b.map Int.toNat) _) = _
  generalize h.map Int.toNat = h, s.map Int.toNat = s, b.map Int.toNat = b
  unfold Ks482.book openAns
  rw [bookOf_is]
  by_cases e : isBook h s b = true
  · rw [if_pos e, if_pos e]
    have eb := isB e
    obtain ⟨r1, _, _⟩ := bookM_rest eb
    have ra := bookM_all eb
    show Ks482Neutral.out { ret := ((Ks482.asksOf (bookM h s b)).length : Int), out := Ks482.asksOf (bookM h s b) ++ [(Ks482.offsOf (bookM h s b)).length] ++ Ks482.offsOf (bookM h s b) ++ [(Ks482.timersOf (bookM h s b)).length] ++ Ks482.timersOf (bookM h s b) } = _
    rw [asks_gen r1 ra eb.all, offs_gen r1 ra eb.all, timers_gen r1 ra eb.all]
    unfold openOf counted Ks482Neutral.out Ks482Neutral.ints
    simp only [List.map_append, List.append_assoc, List.map_cons, List.cons_append, List.map_nil, List.nil_append]
    rfl
  · rw [if_neg e, if_neg e]; rfl
end BP
/-! ## P3: what may come, soundness -/
namespace BP
open Ks480 (Bid Ev)
open Ks482 (Book)
def isOver (bs : List Bid) : Bool := bs.any fun b => decide (b.kind = 6)
def isCalled (ts : List T3) : Bool := ts.any fun t => decide (t.1 = 5)
def mayCome (past : List T3) (bs : List Bid) (t : T3) : Bool :=
  if isOver bs = true then false
  else if t.1 = 0 ∨ t.1 = 1 then isOpen past bs t.2.1
  else if t.1 = 2 then isStepOff past bs t.2.1
  else if t.1 = 3 then isTimer past bs t.2.1
  else if t.1 = 4 then decide (t.2.1 < 4)
  else !isCalled past
/-- from the at-th three on, these bids so far -/
def soundFrom (ts : List T3) (pages : List (List Bid)) : Nat → Nat → List Bid → Bool
  | 0, _, _ => true
  | n + 1, at_, bs => if mayCome (ts.take at_) (bs ++ pages.getD at_ []) (ts.getD at_ (0, 0, 0)) = true then soundFrom ts pages n (at_ + 1) (bs ++ pages.getD at_ []) else false
def isSound (ts : List T3) (pages : List (List Bid)) : Bool := soundFrom ts pages ts.length 0 []
theorem mem_openList {p : Nat → Bool} {n i : Nat} : (openList p n).contains i = (decide (i < n) && p i) := by
  rw [Bool.eq_iff_iff]
  unfold openList
  simp
theorem isKind_lt {bs : List Bid} {k i : Nat} (h : isKind bs k i = true) : i < bs.length := by
  unfold isKind at h
  cases e : bs[i]? with
  | none => rw [e] at h; cases h
  | some b => exact (List.getElem?_eq_some_iff.mp e).1
theorem isOpen_lt {ts : List T3} {bs : List Bid} {i : Nat} (h : isOpen ts bs i = true) : i < bs.length := by
  unfold isOpen at h
  rw [Bool.and_eq_true] at h
  exact isKind_lt h.1
theorem cont_of {p : Nat → Bool} {n i : Nat} (h : p i = true → i < n) : (openList p n).contains i = p i := by
  rw [mem_openList]
  cases e : p i with
  | false => rw [Bool.and_false]
  | true => rw [Bool.and_true, decide_eq_true (h e)]
theorem find_over (bs : List Bid) : (bs.find? fun y => y.kind == 6).isNone = !isOver bs := by
  unfold isOver
  rw [Bool.eq_iff_iff]
  simp
theorem may_gen {B : Book} {ts : List T3} {bs : List Bid} {t : T3} (h1 : (B.rest.map fun p => p.1) = ts.map toEv) (h2 : Ks482.allBids B = bs) (h3 : (ts.all fun t => isThree t.1 t.2.1 t.2.2) = true) (ht : isThree t.1 t.2.1 t.2.2 = true) :
    Ks482.may B (toEv t) = mayCome ts bs t := by
  unfold Ks482.may Ks482.endOf mayCome
  rw [h2, find_over, asks_gen h1 h2 h3, offs_gen h1 h2 h3, timers_gen h1 h2 h3]
  have hc : Ks482.calledOf B = isCalled ts := by
    unfold Ks482.calledOf isCalled
    rw [any_ev h1 (fun e => e == Ev.callOff)]
    exact any_congr fun t ht => toEv_off t (List.all_eq_true.mp h3 t ht)
  have c1 : ∀ i, (openList (isOpen ts bs) bs.length).contains i = isOpen ts bs i := fun i => cont_of isOpen_lt
  have c2 : ∀ i, (openList (isStepOff ts bs) bs.length).contains i = isStepOff ts bs i := fun i => cont_of fun h => by
    unfold isStepOff at h
    rw [Bool.and_eq_true] at h
    exact isOpen_lt h.1
  have c3 : ∀ i, (openList (isTimer ts bs) bs.length).contains i = isTimer ts bs i := fun i => cont_of fun h => by
    unfold isTimer at h
    split at h
    · cases h
    · rename_i q
      have : isKind bs 1 i = true := by
        cases e : isKind bs 1 i with
        | true => rfl
        | false => rw [e] at q; exact absurd (Or.inl rfl) q
      exact isKind_lt this
  by_cases ho : isOver bs = true
  · rw [if_pos ho, ho]; rfl
  · rw [if_neg ho]
    have ho' : isOver bs = false := by simpa using ho
    rw [ho', Bool.not_false, Bool.true_and]
    obtain ⟨k, i, x⟩ := t
    match k with
    | 0 => exact c1 i
    | 1 => exact c1 i
    | 2 => exact c2 i
    | 3 => exact c3 i
    | 4 => rfl
    | 5 => show (!Ks482.calledOf B) = !isCalled ts; rw [hc]
    | n + 6 =>
      have h' : isThree (n + 6) i x = true := ht
      unfold isThree at h'
      rw [if_neg (by omega), if_neg (by omega)] at h'
      simp at h'
theorem sound_all (ts : List T3) (pages : List (List Bid)) : ∀ (n at_ : Nat) (bs : List Bid),
    soundFrom ts pages n at_ bs = (List.range n).all fun k => mayCome (ts.take (at_ + k)) (bs ++ ((pages.drop at_).take (k + 1)).flatten) (ts.getD (at_ + k) (0, 0, 0))
  | 0, _, _ => rfl
  | n + 1, at_, bs => by
    unfold soundFrom
    rw [sound_all ts pages n (at_ + 1)]
    have hp : ∀ k, (bs ++ pages.getD at_ []) ++ ((pages.drop (at_ + 1)).take (k + 1)).flatten = bs ++ ((pages.drop at_).take (k + 1 + 1)).flatten := fun k => by
      rw [List.append_assoc]
      congr 1
      by_cases h : at_ < pages.length
      · rw [List.drop_eq_getElem_cons h, List.take_succ_cons, List.flatten_cons, List.getD_eq_getElem?_getD, List.getElem?_eq_getElem h]; rfl
      · rw [List.drop_eq_nil_of_le (by omega), List.drop_eq_nil_of_le (by omega), List.getD_eq_getElem?_getD, List.getElem?_eq_none (by omega)]; simp
    have h0 : bs ++ pages.getD at_ [] = bs ++ ((pages.drop at_).take (0 + 1)).flatten := by
      congr 1
      by_cases h : at_ < pages.length
      · rw [List.drop_eq_getElem_cons h, List.take_succ_cons, List.flatten_cons, List.getD_eq_getElem?_getD, List.getElem?_eq_getElem h]; simp
      · rw [List.drop_eq_nil_of_le (by omega), List.getD_eq_getElem?_getD, List.getElem?_eq_none (by omega)]; simp
    rw [List.range_succ_eq_map, List.all_cons, List.all_map]
    have e1 : (List.range n).all (fun k => mayCome (ts.take (at_ + 1 + k)) (bs ++ pages.getD at_ [] ++ ((pages.drop (at_ + 1)).take (k + 1)).flatten) (ts.getD (at_ + 1 + k) (0, 0, 0))) =
        (List.range n).all ((fun k => mayCome (ts.take (at_ + k)) (bs ++ ((pages.drop at_).take (k + 1)).flatten) (ts.getD (at_ + k) (0, 0, 0))) ∘ Nat.succ) := by
      congr 1
      funext k
      show _ = mayCome (ts.take (at_ + (k + 1))) (bs ++ ((pages.drop at_).take (k + 1 + 1)).flatten) (ts.getD (at_ + (k + 1)) (0, 0, 0))
      rw [← hp k, show at_ + 1 + k = at_ + (k + 1) by omega]
    rw [e1, Nat.add_zero, ← h0]
    cases mayCome (ts.take at_) (bs ++ pages.getD at_ []) (ts.getD at_ (0, 0, 0)) <;> simp
/-- of a book: by so many pages -/
theorem part_book {h s b : List Nat} (e : IsB h s b) (k : Nat) (hk : k ≤ h.length / 3) :
    let B : Book := ⟨(bookM h s b).first, (bookM h s b).rest.take k⟩
    (B.rest.map fun p => p.1) = ((threes h).take k).map toEv ∧ Ks482.allBids B = ((pagesOf s (fours b)).take (k + 1)).flatten := by
  obtain ⟨r1, r2, r3⟩ := bookM_rest e
  refine ⟨?_, ?_⟩
  · show ((bookM h s b).rest.take k).map (fun p => p.1) = _
    rw [List.map_take, r1, List.map_take]
  · show (bookM h s b).first ++ ((bookM h s b).rest.take k).flatMap (fun p => p.2) = _
    have : ((bookM h s b).rest.take k).flatMap (fun p => p.2) = (((bookM h s b).rest.map fun p => p.2).take k).flatten := by rw [List.flatMap, List.map_take]
    rw [this, r2, ← r3, List.take_succ_cons, List.flatten_cons, r3]
theorem sound_eq {h s b : List Nat} (e : IsB h s b) : Ks482.sound (bookM h s b) = isSound (threes h) (pagesOf s (fours b)) := by
  unfold Ks482.sound isSound
  obtain ⟨r1, r2, r3⟩ := bookM_rest e
  have l3 := threes_len h e.h3
  have hl : (bookM h s b).rest.length = (threes h).length := by
    have := congrArg List.length r1
    rw [List.length_map, List.length_map] at this
    exact this
  rw [sound_all, hl]
  rw [Bool.eq_iff_iff, List.all_eq_true, List.all_eq_true]
  have key : ∀ k, k < (threes h).length → (match (bookM h s b).rest[k]? with
      | some (e, _) => Ks482.may ⟨(bookM h s b).first, (bookM h s b).rest.take k⟩ e
      | none => true) = mayCome ((threes h).take (0 + k)) ([] ++ (((pagesOf s (fours b)).drop 0).take (k + 1)).flatten) ((threes h).getD (0 + k) (0, 0, 0)) := fun k hk => by
    obtain ⟨q1, q2⟩ := part_book e k (by omega)
    have ht : (threes h)[k]? = some (threes h)[k] := List.getElem?_eq_getElem hk
    have hr : ((bookM h s b).rest.map fun p => p.1)[k]? = some (toEv (threes h)[k]) := by rw [r1, List.getElem?_map, ht]; rfl
    rw [List.getElem?_map] at hr
    obtain ⟨⟨e', l⟩, he, hee⟩ := Option.map_eq_some_iff.mp hr
    rw [he]
    have hee : e' = toEv (threes h)[k] := hee
    subst hee
    have all3 := List.all_eq_true.mp e.all
    have m := may_gen (t := (threes h)[k]) q1 q2 (List.all_eq_true.mpr fun t ht => all3 t (List.mem_of_mem_take ht)) (all3 _ (List.getElem_mem hk))
    show Ks482.may _ _ = _
    rw [m, Nat.zero_add, List.drop_zero, List.nil_append, List.getD_eq_getElem?_getD, ht]; rfl
  constructor
  · intro hh k hk
    exact (key k (List.mem_range.mp hk)).symm.trans (hh k hk)
  · intro hh k hk
    exact (key k (List.mem_range.mp hk)).trans (hh k hk)
def soundAns (h s b : List Nat) : List Int := if isBook h s b = true then [if isSound (threes h) (pagesOf s (fours b)) = true then 1 else 0] else [-22]
theorem sound_is (h s b : List Int) : PyKs482.sound h s b = soundAns (h.map Int.toNat) (s.map Int.toNat) (b.map Int.toNat) := by
  show Ks482Neutral.out (Ks482.book (h.map Int.toNat) (s.map Int.toNat) (b.map Int.toNat) _) = _
  generalize h.map Int.toNat = h, s.map Int.toNat = s, b.map Int.toNat = b
  unfold Ks482.book soundAns
  rw [bookOf_is]
  by_cases e : isBook h s b = true
  · rw [if_pos e, if_pos e]
    show Ks482Neutral.out (Ks482.no (if Ks482.sound (bookM h s b) = true then 1 else 0)) = _
    rw [sound_eq (isB e)]; rfl
  · rw [if_neg e, if_neg e]; rfl
end BP
/-! ## the text's facts -/
namespace BA
open PySem PySem.Spec PyProof.Rows L2 Evl
open Ks480 (Bid)
open BP (T3)
def top (i : Nat) : Stmt := PySem.Challenge.pw_bookagain_s06_sound.main.body.getD i (.Pass ⟨0, 0, 0, 0⟩)
abbrev s_is_three : Stmt := top 14
theorem sc_is_three : FnScope ["kind", "i", "x"] ["kind", "i", "x"] (defScope s_is_three) := ⟨rfl, rfl, rfl, by decide +kernel, rfl, by decide +kernel, by decide +kernel⟩
abbrev s_threes_of : Stmt := top 15
theorem sc_threes_of : FnScope ["row", "at"] ["row"] (defScope s_threes_of) := ⟨rfl, rfl, rfl, by decide +kernel, rfl, by decide +kernel, by decide +kernel⟩
abbrev s_fours_of : Stmt := top 16
theorem sc_fours_of : FnScope ["row", "at"] ["row"] (defScope s_fours_of) := ⟨rfl, rfl, rfl, by decide +kernel, rfl, by decide +kernel, by decide +kernel⟩
abbrev s_are_happenings : Stmt := top 17
theorem sc_are_happenings : FnScope ["h", "kind", "i", "x"] ["h"] (defScope s_are_happenings) := ⟨rfl, rfl, rfl, by decide +kernel, rfl, by decide +kernel, by decide +kernel⟩
abbrev s_are_bids : Stmt := top 18
theorem sc_are_bids : FnScope ["bids", "four"] ["bids"] (defScope s_are_bids) := ⟨rfl, rfl, rfl, by decide +kernel, rfl, by decide +kernel, by decide +kernel⟩
abbrev s_is_book : Stmt := top 19
theorem sc_is_book : FnScope ["h", "sizes", "bids"] ["h", "sizes", "bids"] (defScope s_is_book) := ⟨rfl, rfl, rfl, by decide +kernel, rfl, by decide +kernel, by decide +kernel⟩
abbrev s_pages_of : Stmt := top 20
theorem sc_pages_of : FnScope ["sizes", "bids", "fours", "pages", "at", "size"] ["sizes", "bids"] (defScope s_pages_of) := ⟨rfl, rfl, rfl, by decide +kernel, rfl, by decide +kernel, by decide +kernel⟩
abbrev s_is_of_kind : Stmt := top 21
theorem sc_is_of_kind : FnScope ["bids", "kind", "i"] ["bids", "kind", "i"] (defScope s_is_of_kind) := ⟨rfl, rfl, rfl, by decide +kernel, rfl, by decide +kernel, by decide +kernel⟩
abbrev s_is_bidden_of : Stmt := top 22
theorem sc_is_bidden_of : FnScope ["bids", "kind", "i"] ["bids", "kind", "i"] (defScope s_is_bidden_of) := ⟨rfl, rfl, rfl, by decide +kernel, rfl, by decide +kernel, by decide +kernel⟩
abbrev s_is_happening_of : Stmt := top 23
theorem sc_is_happening_of : FnScope ["past", "kinds", "i", "three"] ["past", "kinds", "i"] (defScope s_is_happening_of) := ⟨rfl, rfl, rfl, by decide +kernel, rfl, by decide +kernel, by decide +kernel⟩
abbrev s_is_open : Stmt := top 24
theorem sc_is_open : FnScope ["past", "bids", "i"] ["past", "bids", "i"] (defScope s_is_open) := ⟨rfl, rfl, rfl, by decide +kernel, rfl, by decide +kernel, by decide +kernel⟩
abbrev s_is_step_off : Stmt := top 25
theorem sc_is_step_off : FnScope ["past", "bids", "i"] ["past", "bids", "i"] (defScope s_is_step_off) := ⟨rfl, rfl, rfl, by decide +kernel, rfl, by decide +kernel, by decide +kernel⟩
abbrev s_is_timer : Stmt := top 26
theorem sc_is_timer : FnScope ["past", "bids", "i"] ["past", "bids", "i"] (defScope s_is_timer) := ⟨rfl, rfl, rfl, by decide +kernel, rfl, by decide +kernel, by decide +kernel⟩
abbrev s_is_over : Stmt := top 27
theorem sc_is_over : FnScope ["bids", "bid"] ["bids"] (defScope s_is_over) := ⟨rfl, rfl, rfl, by decide +kernel, rfl, by decide +kernel, by decide +kernel⟩
abbrev s_may_come : Stmt := top 28
theorem sc_may_come : FnScope ["past", "bids", "three", "kind", "i", "x", "earlier"] ["past", "bids", "three"] (defScope s_may_come) := ⟨rfl, rfl, rfl, by decide +kernel, rfl, by decide +kernel, by decide +kernel⟩
abbrev s_is_sound : Stmt := top 29
theorem sc_is_sound : FnScope ["threes", "pages", "bids", "at"] ["threes", "pages"] (defScope s_is_sound) := ⟨rfl, rfl, rfl, by decide +kernel, rfl, by decide +kernel, by decide +kernel⟩
abbrev s_sound : Stmt := top 32
theorem sc_sound : FnScope ["h", "sizes", "bids"] ["h", "sizes", "bids"] (defScope s_sound) := ⟨rfl, rfl, rfl, by decide +kernel, rfl, by decide +kernel, by decide +kernel⟩
def fa_0 : List He.Fa := [
  .int "DONE" (0),
  .int "WENT_WRONG" (1),
  .int "NEVER_DONE" (2),
  .int "FIRED" (3),
  .int "WORD" (4),
  .int "ERRAND_OFF" (5),
  .int "ASK" (0),
  .int "TIMER" (1),
  .int "STOP" (2),
  .int "STEP_OFF" (3),
  .int "ENDED" (6),
  .int "MOST_HAPPENINGS" (60),
  .int "KINDS_OF_WORDS" (4),
  .int "NOT_AS_TOLD" (-22),
  .free "all",
  .free "any",
  .free "int",
  .free "len",
  .free "range",
  .free "sum",
  .glo "is_three",
  .glo "threes_of",
  .glo "fours_of",
  .glo "are_happenings",
  .glo "are_bids",
  .glo "is_book",
  .glo "pages_of",
  .glo "is_of_kind",
  .glo "is_bidden_of",
  .glo "is_happening_of"]
def fa_1 : List He.Fa := [
  .glo "is_open",
  .glo "is_step_off",
  .glo "is_timer",
  .glo "is_over",
  .glo "may_come",
  .glo "is_sound",
  .glo "sound"]
def fa : List He.Fa := fa_0 ++ (fa_1)
def fn_0 : List He.DefD := [
  ⟨("is_three", none), "is_three", "is_three", defArgs s_is_three, defBody s_is_three, defScope s_is_three, [], []⟩,
  ⟨("threes_of", none), "threes_of", "threes_of", defArgs s_threes_of, defBody s_threes_of, defScope s_threes_of, [], []⟩,
  ⟨("fours_of", none), "fours_of", "fours_of", defArgs s_fours_of, defBody s_fours_of, defScope s_fours_of, [], []⟩,
  ⟨("are_happenings", none), "are_happenings", "are_happenings", defArgs s_are_happenings, defBody s_are_happenings, defScope s_are_happenings, [], []⟩,
  ⟨("are_bids", none), "are_bids", "are_bids", defArgs s_are_bids, defBody s_are_bids, defScope s_are_bids, [], []⟩,
  ⟨("is_book", none), "is_book", "is_book", defArgs s_is_book, defBody s_is_book, defScope s_is_book, [], []⟩,
  ⟨("pages_of", none), "pages_of", "pages_of", defArgs s_pages_of, defBody s_pages_of, defScope s_pages_of, [], []⟩,
  ⟨("is_of_kind", none), "is_of_kind", "is_of_kind", defArgs s_is_of_kind, defBody s_is_of_kind, defScope s_is_of_kind, [], []⟩,
  ⟨("is_bidden_of", none), "is_bidden_of", "is_bidden_of", defArgs s_is_bidden_of, defBody s_is_bidden_of, defScope s_is_bidden_of, [], []⟩,
  ⟨("is_happening_of", none), "is_happening_of", "is_happening_of", defArgs s_is_happening_of, defBody s_is_happening_of, defScope s_is_happening_of, [], []⟩,
  ⟨("is_open", none), "is_open", "is_open", defArgs s_is_open, defBody s_is_open, defScope s_is_open, [], []⟩,
  ⟨("is_step_off", none), "is_step_off", "is_step_off", defArgs s_is_step_off, defBody s_is_step_off, defScope s_is_step_off, [], []⟩,
  ⟨("is_timer", none), "is_timer", "is_timer", defArgs s_is_timer, defBody s_is_timer, defScope s_is_timer, [], []⟩,
  ⟨("is_over", none), "is_over", "is_over", defArgs s_is_over, defBody s_is_over, defScope s_is_over, [], []⟩,
  ⟨("may_come", none), "may_come", "may_come", defArgs s_may_come, defBody s_may_come, defScope s_may_come, [], []⟩,
  ⟨("is_sound", none), "is_sound", "is_sound", defArgs s_is_sound, defBody s_is_sound, defScope s_is_sound, [], []⟩,
  ⟨("sound", none), "sound", "sound", defArgs s_sound, defBody s_sound, defScope s_sound, [], []⟩]
def fn : List He.DefD := fn_0
structure Txt (K : PySem.W.Frag) (mg : Str → Option Value) : Prop where
  ex : ∃ h : Heap, K.In h ∧ h.Ns mainGlobals mg ∧ He.SaysD fa fn K
section
variable {K : PySem.W.Frag} {mg : Str → Option Value}
theorem Txt.c_DONE (T : Txt K mg) : ∃ t, mg "DONE" = some (Value.int (0) t) := by
  obtain ⟨h, X, G, c⟩ := T.ex
  exact He.int_ok X G (c.fact 0 rfl)
theorem Txt.c_WENT_WRONG (T : Txt K mg) : ∃ t, mg "WENT_WRONG" = some (Value.int (1) t) := by
  obtain ⟨h, X, G, c⟩ := T.ex
  exact He.int_ok X G (c.fact 1 rfl)
theorem Txt.c_NEVER_DONE (T : Txt K mg) : ∃ t, mg "NEVER_DONE" = some (Value.int (2) t) := by
  obtain ⟨h, X, G, c⟩ := T.ex
  exact He.int_ok X G (c.fact 2 rfl)
theorem Txt.c_FIRED (T : Txt K mg) : ∃ t, mg "FIRED" = some (Value.int (3) t) := by
  obtain ⟨h, X, G, c⟩ := T.ex
  exact He.int_ok X G (c.fact 3 rfl)
theorem Txt.c_WORD (T : Txt K mg) : ∃ t, mg "WORD" = some (Value.int (4) t) := by
  obtain ⟨h, X, G, c⟩ := T.ex
  exact He.int_ok X G (c.fact 4 rfl)
theorem Txt.c_ERRAND_OFF (T : Txt K mg) : ∃ t, mg "ERRAND_OFF" = some (Value.int (5) t) := by
  obtain ⟨h, X, G, c⟩ := T.ex
  exact He.int_ok X G (c.fact 5 rfl)
theorem Txt.c_ASK (T : Txt K mg) : ∃ t, mg "ASK" = some (Value.int (0) t) := by
  obtain ⟨h, X, G, c⟩ := T.ex
  exact He.int_ok X G (c.fact 6 rfl)
theorem Txt.c_TIMER (T : Txt K mg) : ∃ t, mg "TIMER" = some (Value.int (1) t) := by
  obtain ⟨h, X, G, c⟩ := T.ex
  exact He.int_ok X G (c.fact 7 rfl)
theorem Txt.c_STOP (T : Txt K mg) : ∃ t, mg "STOP" = some (Value.int (2) t) := by
  obtain ⟨h, X, G, c⟩ := T.ex
  exact He.int_ok X G (c.fact 8 rfl)
theorem Txt.c_STEP_OFF (T : Txt K mg) : ∃ t, mg "STEP_OFF" = some (Value.int (3) t) := by
  obtain ⟨h, X, G, c⟩ := T.ex
  exact He.int_ok X G (c.fact 9 rfl)
theorem Txt.c_ENDED (T : Txt K mg) : ∃ t, mg "ENDED" = some (Value.int (6) t) := by
  obtain ⟨h, X, G, c⟩ := T.ex
  exact He.int_ok X G (c.fact 10 rfl)
theorem Txt.c_MOST_HAPPENINGS (T : Txt K mg) : ∃ t, mg "MOST_HAPPENINGS" = some (Value.int (60) t) := by
  obtain ⟨h, X, G, c⟩ := T.ex
  exact He.int_ok X G (c.fact 11 rfl)
theorem Txt.c_KINDS_OF_WORDS (T : Txt K mg) : ∃ t, mg "KINDS_OF_WORDS" = some (Value.int (4) t) := by
  obtain ⟨h, X, G, c⟩ := T.ex
  exact He.int_ok X G (c.fact 12 rfl)
theorem Txt.c_NOT_AS_TOLD (T : Txt K mg) : ∃ t, mg "NOT_AS_TOLD" = some (Value.int (-22) t) := by
  obtain ⟨h, X, G, c⟩ := T.ex
  exact He.int_ok X G (c.fact 13 rfl)
theorem Txt.f_all (T : Txt K mg) : mg "all" = none := by
  obtain ⟨h, X, G, c⟩ := T.ex
  exact He.free_ok X G (c.fact 14 rfl)
theorem Txt.f_any (T : Txt K mg) : mg "any" = none := by
  obtain ⟨h, X, G, c⟩ := T.ex
  exact He.free_ok X G (c.fact 15 rfl)
theorem Txt.f_int (T : Txt K mg) : mg "int" = none := by
  obtain ⟨h, X, G, c⟩ := T.ex
  exact He.free_ok X G (c.fact 16 rfl)
theorem Txt.f_len (T : Txt K mg) : mg "len" = none := by
  obtain ⟨h, X, G, c⟩ := T.ex
  exact He.free_ok X G (c.fact 17 rfl)
theorem Txt.f_range (T : Txt K mg) : mg "range" = none := by
  obtain ⟨h, X, G, c⟩ := T.ex
  exact He.free_ok X G (c.fact 18 rfl)
theorem Txt.f_sum (T : Txt K mg) : mg "sum" = none := by
  obtain ⟨h, X, G, c⟩ := T.ex
  exact He.free_ok X G (c.fact 19 rfl)
theorem Txt.g_is_three (T : Txt K mg) : mg "is_three" = some (.ref (He.ga K "is_three")) := by
  obtain ⟨h, X, G, c⟩ := T.ex
  exact He.glo_ok X G (c.fact 20 rfl)
theorem Txt.d_is_three (T : Txt K mg) : ∃ fd, FunD K "is_three" "is_three" (defArgs s_is_three) (defBody s_is_three) (defScope s_is_three) [] [] (He.ga K "is_three") fd := by
  obtain ⟨h, X, G, c⟩ := T.ex
  exact c.def_ 0 rfl
theorem Txt.g_threes_of (T : Txt K mg) : mg "threes_of" = some (.ref (He.ga K "threes_of")) := by
  obtain ⟨h, X, G, c⟩ := T.ex
  exact He.glo_ok X G (c.fact 21 rfl)
theorem Txt.d_threes_of (T : Txt K mg) : ∃ fd, FunD K "threes_of" "threes_of" (defArgs s_threes_of) (defBody s_threes_of) (defScope s_threes_of) [] [] (He.ga K "threes_of") fd := by
  obtain ⟨h, X, G, c⟩ := T.ex
  exact c.def_ 1 rfl
theorem Txt.g_fours_of (T : Txt K mg) : mg "fours_of" = some (.ref (He.ga K "fours_of")) := by
  obtain ⟨h, X, G, c⟩ := T.ex
  exact He.glo_ok X G (c.fact 22 rfl)
theorem Txt.d_fours_of (T : Txt K mg) : ∃ fd, FunD K "fours_of" "fours_of" (defArgs s_fours_of) (defBody s_fours_of) (defScope s_fours_of) [] [] (He.ga K "fours_of") fd := by
  obtain ⟨h, X, G, c⟩ := T.ex
  exact c.def_ 2 rfl
theorem Txt.g_are_happenings (T : Txt K mg) : mg "are_happenings" = some (.ref (He.ga K "are_happenings")) := by
  obtain ⟨h, X, G, c⟩ := T.ex
  exact He.glo_ok X G (c.fact 23 rfl)
theorem Txt.d_are_happenings (T : Txt K mg) : ∃ fd, FunD K "are_happenings" "are_happenings" (defArgs s_are_happenings) (defBody s_are_happenings) (defScope s_are_happenings) [] [] (He.ga K "are_happenings") fd := by
  obtain ⟨h, X, G, c⟩ := T.ex
  exact c.def_ 3 rfl
theorem Txt.g_are_bids (T : Txt K mg) : mg "are_bids" = some (.ref (He.ga K "are_bids")) := by
  obtain ⟨h, X, G, c⟩ := T.ex
  exact He.glo_ok X G (c.fact 24 rfl)
theorem Txt.d_are_bids (T : Txt K mg) : ∃ fd, FunD K "are_bids" "are_bids" (defArgs s_are_bids) (defBody s_are_bids) (defScope s_are_bids) [] [] (He.ga K "are_bids") fd := by
  obtain ⟨h, X, G, c⟩ := T.ex
  exact c.def_ 4 rfl
theorem Txt.g_is_book (T : Txt K mg) : mg "is_book" = some (.ref (He.ga K "is_book")) := by
  obtain ⟨h, X, G, c⟩ := T.ex
  exact He.glo_ok X G (c.fact 25 rfl)
theorem Txt.d_is_book (T : Txt K mg) : ∃ fd, FunD K "is_book" "is_book" (defArgs s_is_book) (defBody s_is_book) (defScope s_is_book) [] [] (He.ga K "is_book") fd := by
  obtain ⟨h, X, G, c⟩ := T.ex
  exact c.def_ 5 rfl
theorem Txt.g_pages_of (T : Txt K mg) : mg "pages_of" = some (.ref (He.ga K "pages_of")) := by
  obtain ⟨h, X, G, c⟩ := T.ex
  exact He.glo_ok X G (c.fact 26 rfl)
theorem Txt.d_pages_of (T : Txt K mg) : ∃ fd, FunD K "pages_of" "pages_of" (defArgs s_pages_of) (defBody s_pages_of) (defScope s_pages_of) [] [] (He.ga K "pages_of") fd := by
  obtain ⟨h, X, G, c⟩ := T.ex
  exact c.def_ 6 rfl
theorem Txt.g_is_of_kind (T : Txt K mg) : mg "is_of_kind" = some (.ref (He.ga K "is_of_kind")) := by
  obtain ⟨h, X, G, c⟩ := T.ex
  exact He.glo_ok X G (c.fact 27 rfl)
theorem Txt.d_is_of_kind (T : Txt K mg) : ∃ fd, FunD K "is_of_kind" "is_of_kind" (defArgs s_is_of_kind) (defBody s_is_of_kind) (defScope s_is_of_kind) [] [] (He.ga K "is_of_kind") fd := by
  obtain ⟨h, X, G, c⟩ := T.ex
  exact c.def_ 7 rfl
theorem Txt.g_is_bidden_of (T : Txt K mg) : mg "is_bidden_of" = some (.ref (He.ga K "is_bidden_of")) := by
  obtain ⟨h, X, G, c⟩ := T.ex
  exact He.glo_ok X G (c.fact 28 rfl)
theorem Txt.d_is_bidden_of (T : Txt K mg) : ∃ fd, FunD K "is_bidden_of" "is_bidden_of" (defArgs s_is_bidden_of) (defBody s_is_bidden_of) (defScope s_is_bidden_of) [] [] (He.ga K "is_bidden_of") fd := by
  obtain ⟨h, X, G, c⟩ := T.ex
  exact c.def_ 8 rfl
theorem Txt.g_is_happening_of (T : Txt K mg) : mg "is_happening_of" = some (.ref (He.ga K "is_happening_of")) := by
  obtain ⟨h, X, G, c⟩ := T.ex
  exact He.glo_ok X G (c.fact 29 rfl)
theorem Txt.d_is_happening_of (T : Txt K mg) : ∃ fd, FunD K "is_happening_of" "is_happening_of" (defArgs s_is_happening_of) (defBody s_is_happening_of) (defScope s_is_happening_of) [] [] (He.ga K "is_happening_of") fd := by
  obtain ⟨h, X, G, c⟩ := T.ex
  exact c.def_ 9 rfl
theorem Txt.g_is_open (T : Txt K mg) : mg "is_open" = some (.ref (He.ga K "is_open")) := by
  obtain ⟨h, X, G, c⟩ := T.ex
  exact He.glo_ok X G (c.fact 30 rfl)
theorem Txt.d_is_open (T : Txt K mg) : ∃ fd, FunD K "is_open" "is_open" (defArgs s_is_open) (defBody s_is_open) (defScope s_is_open) [] [] (He.ga K "is_open") fd := by
  obtain ⟨h, X, G, c⟩ := T.ex
  exact c.def_ 10 rfl
theorem Txt.g_is_step_off (T : Txt K mg) : mg "is_step_off" = some (.ref (He.ga K "is_step_off")) := by
  obtain ⟨h, X, G, c⟩ := T.ex
  exact He.glo_ok X G (c.fact 31 rfl)
theorem Txt.d_is_step_off (T : Txt K mg) : ∃ fd, FunD K "is_step_off" "is_step_off" (defArgs s_is_step_off) (defBody s_is_step_off) (defScope s_is_step_off) [] [] (He.ga K "is_step_off") fd := by
  obtain ⟨h, X, G, c⟩ := T.ex
  exact c.def_ 11 rfl
theorem Txt.g_is_timer (T : Txt K mg) : mg "is_timer" = some (.ref (He.ga K "is_timer")) := by
  obtain ⟨h, X, G, c⟩ := T.ex
  exact He.glo_ok X G (c.fact 32 rfl)
theorem Txt.d_is_timer (T : Txt K mg) : ∃ fd, FunD K "is_timer" "is_timer" (defArgs s_is_timer) (defBody s_is_timer) (defScope s_is_timer) [] [] (He.ga K "is_timer") fd := by
  obtain ⟨h, X, G, c⟩ := T.ex
  exact c.def_ 12 rfl
theorem Txt.g_is_over (T : Txt K mg) : mg "is_over" = some (.ref (He.ga K "is_over")) := by
  obtain ⟨h, X, G, c⟩ := T.ex
  exact He.glo_ok X G (c.fact 33 rfl)
theorem Txt.d_is_over (T : Txt K mg) : ∃ fd, FunD K "is_over" "is_over" (defArgs s_is_over) (defBody s_is_over) (defScope s_is_over) [] [] (He.ga K "is_over") fd := by
  obtain ⟨h, X, G, c⟩ := T.ex
  exact c.def_ 13 rfl
theorem Txt.g_may_come (T : Txt K mg) : mg "may_come" = some (.ref (He.ga K "may_come")) := by
  obtain ⟨h, X, G, c⟩ := T.ex
  exact He.glo_ok X G (c.fact 34 rfl)
theorem Txt.d_may_come (T : Txt K mg) : ∃ fd, FunD K "may_come" "may_come" (defArgs s_may_come) (defBody s_may_come) (defScope s_may_come) [] [] (He.ga K "may_come") fd := by
  obtain ⟨h, X, G, c⟩ := T.ex
  exact c.def_ 14 rfl
theorem Txt.g_is_sound (T : Txt K mg) : mg "is_sound" = some (.ref (He.ga K "is_sound")) := by
  obtain ⟨h, X, G, c⟩ := T.ex
  exact He.glo_ok X G (c.fact 35 rfl)
theorem Txt.d_is_sound (T : Txt K mg) : ∃ fd, FunD K "is_sound" "is_sound" (defArgs s_is_sound) (defBody s_is_sound) (defScope s_is_sound) [] [] (He.ga K "is_sound") fd := by
  obtain ⟨h, X, G, c⟩ := T.ex
  exact c.def_ 15 rfl
theorem Txt.g_sound (T : Txt K mg) : mg "sound" = some (.ref (He.ga K "sound")) := by
  obtain ⟨h, X, G, c⟩ := T.ex
  exact He.glo_ok X G (c.fact 36 rfl)
theorem Txt.d_sound (T : Txt K mg) : ∃ fd, FunD K "sound" "sound" (defArgs s_sound) (defBody s_sound) (defScope s_sound) [] [] (He.ga K "sound") fd := by
  obtain ⟨h, X, G, c⟩ := T.ex
  exact c.def_ 16 rfl
end
end BA
/-! ## the book's defs -/
namespace BA
open PySem PySem.Spec PyProof.Rows L2 Evl
open Ks480 (Bid)
open BP (T3)
def spIsThree : Sp := fun vs H Q _ => ∃ k i x : Nat, vs = [vN k, vN i, vN x] ∧ RetV (.bl (BP.isThree k i x)) H Q
def spThreesOf (K : PySem.W.Frag) : Sp := fun vs H Q _ => ∃ (a : Addr) (l : List Nat), vs = [.ref a] ∧ SqL K H a (l.map vN) ∧ l.length % 3 = 0 ∧ l.length ≤ 1000 ∧ RetDL K ((BP.threes l).map e3) H Q
def spFoursOf (K : PySem.W.Frag) : Sp := fun vs H Q _ => ∃ (a : Addr) (l : List Nat), vs = [.ref a] ∧ SqL K H a (l.map vN) ∧ l.length % 4 = 0 ∧ l.length ≤ 1000 ∧ RetDL K ((BP.fours l).map eB) H Q
def spAreHap (K : PySem.W.Frag) : Sp := fun vs H Q _ => ∃ (a : Addr) (l : List Nat), vs = [.ref a] ∧ SqL K H a (l.map vN) ∧ l.length ≤ 1000 ∧ RetV (.bl (BP.areHap l)) H Q
def spAreBids (K : PySem.W.Frag) : Sp := fun vs H Q _ => ∃ (a : Addr) (l : List Nat), vs = [.ref a] ∧ SqL K H a (l.map vN) ∧ l.length ≤ 1000 ∧ RetV (.bl (BP.areBids l)) H Q
def spIsBook (K : PySem.W.Frag) : Sp := fun vs H Q _ => ∃ (a b c : Addr) (h s l : List Nat), vs = [.ref a, .ref b, .ref c] ∧ SqL K H a (h.map vN) ∧ SqL K H b (s.map vN) ∧ SqL K H c (l.map vN) ∧ h.length ≤ 1000 ∧ s.length ≤ 1000 ∧ l.length ≤ 1000 ∧ RetV (.bl (BP.isBook h s l)) H Q
def spIsKind (K : PySem.W.Frag) : Sp := fun vs H Q _ => ∃ (a : Addr) (bs : List Bid) (k i : Nat), vs = [.ref a, vN k, vN i] ∧ LD K H a (bs.map eB) ∧ RetV (.bl (BP.isKind bs k i)) H Q
def spIsBidden (K : PySem.W.Frag) : Sp := fun vs H Q _ => ∃ (a : Addr) (bs : List Bid) (k i : Nat), vs = [.ref a, vN k, vN i] ∧ LD K H a (bs.map eB) ∧ RetV (.bl (BP.isBidden bs k i)) H Q
def spIsHap (K : PySem.W.Frag) : Sp := fun vs H Q _ => ∃ (a t : Addr) (past : List T3) (ks : List Nat) (i : Nat), vs = [.ref a, .ref t, vN i] ∧ LD K H a (past.map e3) ∧ past.length ≤ 1000 ∧ SqT K H t (ks.map vN) ∧ RetV (.bl (BP.isHap past ks i)) H Q
def spAt (K : PySem.W.Frag) (f : List T3 → List Bid → Nat → Bool) : Sp := fun vs H Q _ => ∃ (a b : Addr) (past : List T3) (bs : List Bid) (i : Nat), vs = [.ref a, .ref b, vN i] ∧ LD K H a (past.map e3) ∧ past.length ≤ 1000 ∧ LD K H b (bs.map eB) ∧ RetV (.bl (f past bs i)) H Q
def spCounted : Sp := fun vs H Q _ => ∃ (a : Addr) (l : List Nat), vs = [.ref a] ∧ H a = some (.lst (l.map vN)) ∧ l.length ≤ 50000 ∧ RetL ((BP.counted l).map vN) H Q
section
variable {P : Program} {w : World} {K : PySem.W.Frag} {mg : Str → Option Value} {base : Heap}
theorem et_in {ta tb : TE} {σ : L2.St} {H : Hp} {k : Nat} {ks : List Nat} (ha : Ev ta σ H (vN k)) (hb : EvU tb σ H (ks.map vN)) : EvT (tTest (tOp (rIn K false) ta tb)) σ H (decide (k ∈ ks)) :=
  et_test (ev_is (ev_inU ha hb rfl (flat_nats ks)) (by rw [inV_nats]))
theorem ok_is_three (T : Txt K mg) : GD P w K mg base CX0 1 "is_three" ["kind", "i", "x"] spIsThree := by
  refine gd_of T.d_is_three T.g_is_three sc_is_three (by rintro vs H Q E ⟨k, i, x, rfl, _⟩; rfl) (fun _ _ _ _ _ _ us hl => match us, hl with | [_, _, _], _ => rfl) fun cdv A outer s H vs Q E hr h => ⟨_, (pss_cons (ps_if (pt_cmpR op_in_seq (pv 0) (pe_tup (pa_cons (pe_gi (by rfl) T.c_DONE) (pa_cons (pe_gi (by rfl) T.c_WENT_WRONG) (pa_cons (pe_gi (by rfl) T.c_WORD) pa_nil)))) (by rfl)) (pss_one (ps_ret pe_bl)) pss_nil) (pss_cons (ps_if (pt_cmpR op_in_seq (pv 0) (pe_tup (pa_cons (pe_gi (by rfl) T.c_NEVER_DONE) (pa_cons (pe_gi (by rfl) T.c_FIRED) pa_nil))) (by rfl)) (pss_one (ps_ret (pe_cmpR op_eq (pv 2) pe_int (by rfl)))) pss_nil) (pss_one (ps_ret (pe_and (pe_cmpR op_eq (pv 0) (pe_gi (by rfl) T.c_ERRAND_OFF) (by rfl)) (pe_and (pe_cmpR op_eq (pv 1) pe_int (by rfl)) (pe_one (pe_cmpR op_eq (pv 2) pe_int (by rfl))))))))), ?_⟩
  obtain ⟨k, i, x, rfl, q⟩ := h
  have hi : BP.isThree k i x = (if k = 0 ∨ k = 1 ∨ k = 4 then true else if k = 2 ∨ k = 3 then decide (x = 0) else decide (k = 5) && (decide (i = 0) && decide (x = 0))) := rfl
  refine q_when (et_in (ks := [0, 1, 4]) (ev_var rfl) (eu_tup (ea_cons ev_c (ea_cons ev_c (ea_cons ev_c ea_nil))) (by decide))) (fun hb H1 e1 => s_ret ev_c fun H2 e2 => ?_) (fun hb H1 e1 => ?_)
  · have : BP.isThree k i x = true := by
      rw [hi, if_pos (by simpa using of_decide_eq_true hb)]
    rw [this] at q
    exact q H2 (e1.trans e2)
  have h1 : ¬ (k = 0 ∨ k = 1 ∨ k = 4) := fun z => of_decide_eq_false hb (by simpa using z)
  rw [hi, if_neg h1] at q
  refine q_when (et_in (ks := [2, 3]) (ev_var rfl) (eu_tup (ea_cons ev_c (ea_cons ev_c ea_nil)) (by decide))) (fun hb2 H2 e2 => s_ret (ev_eqN (b := 0) (ev_var rfl) ev_c) fun H3 e3 => ?_) (fun hb2 H2 e2 => ?_)
  · rw [if_pos (show k = 2 ∨ k = 3 by simpa using of_decide_eq_true hb2)] at q
    exact q H3 ((e1.trans e2).trans e3)
  · rw [if_neg (show ¬ (k = 2 ∨ k = 3) from fun z => of_decide_eq_false hb2 (by simpa using z))] at q
    exact s_ret (ev_andV (ev_eqN (b := 5) (ev_var rfl) ev_c) fun _ => ev_andV (ev_eqN (b := 0) (ev_var rfl) ev_c) fun _ => ev_eqN (b := 0) (ev_var rfl) ev_c) fun H3 e3 => q H3 ((e1.trans e2).trans e3)
theorem get_nats {l : List Nat} {i n : Nat} (h : l[i]? = some n) : (l.map vN)[i]? = some (vN n) := by rw [List.getElem?_map, h]; rfl
theorem ok_threes_of (T : Txt K mg) : GD P w K mg base CX0 1 "threes_of" ["row"] (spThreesOf K) := by
  refine gd_of T.d_threes_of T.g_threes_of sc_threes_of (by rintro vs H Q E ⟨a, l, rfl, _⟩; rfl) (fun _ _ _ _ _ _ us hl => match us, hl with | [_], _ => rfl) fun cdv A outer s H vs Q E hr h => ⟨_, (pss_one (ps_ret (pe_lc (own := [(("at" : Str), 1)]) (g := gName 1) (tt := tYes) rfl sc_threes_of.nd (pi_range3 (by rfl) T.f_range (pa_cons pe_int (pa_cons (pe_callB call_len_seq (by rfl) T.f_len PySem.boot_len (pa_cons (pv 0) pa_nil)) (pa_cons pe_int pa_nil)))) (blkOk_by (N := ["row", "at"]) (sc := defScope s_threes_of) (by decide +kernel)) (fun _ _ _ _ _ => (pg_name (i := 1) sc_threes_of.nd rfl (Or.inl rfl))) (fun _ _ _ _ _ => pts_nil) (fun _ _ _ _ _ => (pe_tup (pa_cons (pe_ix (r := rIxL K) ix_list (pv 0) (pv 1) (fun _ _ => rfl)) (pa_cons (pe_ix (r := rIxL K) ix_list (pv 0) (pe_op op_add (pv 1) pe_int) (fun _ _ => rfl)) (pa_cons (pe_ix (r := rIxL K) ix_list (pv 0) (pe_op op_add (pv 1) pe_int) (fun _ _ => rfl)) pa_nil)))))))), ?_⟩
  obtain ⟨a, l, rfl, hl, h3, hz, q⟩ := h
  have hlen : ((BP.threes l).map e3).length = l.length / 3 := by rw [List.length_map, BP.threes_len l h3]
  refine edl_range3 (K := K) (ds := (BP.threes l).map e3) (n := l.length) (c := 3) (ea_cons ev_c (ea_cons (ev_is (ev_lenL (ev_var rfl) hl) (by rw [List.length_map])) (ea_cons ev_c ea_nil)))
    (by rw [hlen]; exact rgC_up _ 3 (by decide) (by decide) (by omega) h3) (by rw [hlen]; omega) (e3_tup _) (fun i d H1 e1 hd => ?_) H (Ex.refl H) Q q
  have hi : i < l.length / 3 := by have := (List.getElem?_eq_some_iff.mp hd).1; omega
  obtain ⟨x, y, z, g0, g1, g2, g3⟩ := BP.threes_get l i h3 hi
  rw [List.getElem?_map, g0] at hd
  cases hd
  rw [Nat.mul_comm] at g1 g2 g3
  have hl1 := ex_l e1 hl
  refine elt_name rfl fun H2 e2 Q q => ?_
  have hl2 := ex_l e2 hl1
  refine (ea_cons (ev_ixL (ev_var rfl) hl2 (ev_var rfl) (get_nats g1)) (ea_cons (ev_ixL (i := i * 3 + 1) (ev_var rfl) hl2 (ev_op (ev_var rfl) ev_c rv_I0) (get_nats g2)) (ea_cons (ev_ixL (i := i * 3 + 2) (ev_var rfl) hl2 (ev_op (ev_var rfl) ev_c rv_I0) (get_nats g3)) ea_nil))) H2 (Ex.refl H2) _ fun H3 e3' => ?_
  exact ⟨by show 3 ≤ sizeLine; decide, fun p hp => q _ _ (e3'.trans (Ex.new hp)) (t3_dp (t := (x, y, z)) (SqT.of upd_same))⟩
theorem ok_fours_of (T : Txt K mg) : GD P w K mg base CX0 1 "fours_of" ["row"] (spFoursOf K) := by
  refine gd_of T.d_fours_of T.g_fours_of sc_fours_of (by rintro vs H Q E ⟨a, l, rfl, _⟩; rfl) (fun _ _ _ _ _ _ us hl => match us, hl with | [_], _ => rfl) fun cdv A outer s H vs Q E hr h => ⟨_, (pss_one (ps_ret (pe_lc (own := [(("at" : Str), 1)]) (g := gName 1) (tt := tYes) rfl sc_fours_of.nd (pi_range3 (by rfl) T.f_range (pa_cons pe_int (pa_cons (pe_callB call_len_seq (by rfl) T.f_len PySem.boot_len (pa_cons (pv 0) pa_nil)) (pa_cons pe_int pa_nil)))) (blkOk_by (N := ["row", "at"]) (sc := defScope s_fours_of) (by decide +kernel)) (fun _ _ _ _ _ => (pg_name (i := 1) sc_fours_of.nd rfl (Or.inl rfl))) (fun _ _ _ _ _ => pts_nil) (fun _ _ _ _ _ => (pe_tup (pa_cons (pe_ix (r := rIxL K) ix_list (pv 0) (pv 1) (fun _ _ => rfl)) (pa_cons (pe_ix (r := rIxL K) ix_list (pv 0) (pe_op op_add (pv 1) pe_int) (fun _ _ => rfl)) (pa_cons (pe_ix (r := rIxL K) ix_list (pv 0) (pe_op op_add (pv 1) pe_int) (fun _ _ => rfl)) (pa_cons (pe_ix (r := rIxL K) ix_list (pv 0) (pe_op op_add (pv 1) pe_int) (fun _ _ => rfl)) pa_nil))))))))), ?_⟩
  obtain ⟨a, l, rfl, hl, h3, hz, q⟩ := h
  have hlen : ((BP.fours l).map eB).length = l.length / 4 := by rw [List.length_map, BP.fours_len l h3]
  refine edl_range3 (K := K) (ds := (BP.fours l).map eB) (n := l.length) (c := 4) (ea_cons ev_c (ea_cons (ev_is (ev_lenL (ev_var rfl) hl) (by rw [List.length_map])) (ea_cons ev_c ea_nil)))
    (by rw [hlen]; exact rgC_up _ 4 (by decide) (by decide) (by omega) h3) (by rw [hlen]; omega) (eB_tup _) (fun i d H1 e1 hd => ?_) H (Ex.refl H) Q q
  have hi : i < l.length / 4 := by have := (List.getElem?_eq_some_iff.mp hd).1; omega
  obtain ⟨x, y, z, u, g0, g1, g2, g3, g4⟩ := BP.fours_get l i h3 hi
  rw [List.getElem?_map, g0] at hd
  cases hd
  rw [Nat.mul_comm] at g1 g2 g3 g4
  have hl1 := ex_l e1 hl
  refine elt_name rfl fun H2 e2 Q q => ?_
  have hl2 := ex_l e2 hl1
  refine (ea_cons (ev_ixL (ev_var rfl) hl2 (ev_var rfl) (get_nats g1)) (ea_cons (ev_ixL (i := i * 4 + 1) (ev_var rfl) hl2 (ev_op (ev_var rfl) ev_c rv_I0) (get_nats g2)) (ea_cons (ev_ixL (i := i * 4 + 2) (ev_var rfl) hl2 (ev_op (ev_var rfl) ev_c rv_I0) (get_nats g3)) (ea_cons (ev_ixL (i := i * 4 + 3) (ev_var rfl) hl2 (ev_op (ev_var rfl) ev_c rv_I0) (get_nats g4)) ea_nil)))) H2 (Ex.refl H2) _ fun H3 e3' => ?_
  exact ⟨by show 4 ≤ sizeLine; decide, fun p hp => q _ _ (e3'.trans (Ex.new hp)) (B_dp (b := ⟨x, y, z, u⟩) (SqT.of upd_same))⟩
theorem ok_are_happenings (T : Txt K mg) : GD P w K mg base CX0 2 "are_happenings" ["h"] (spAreHap K) := by
  refine gd_of T.d_are_happenings T.g_are_happenings sc_are_happenings (by rintro vs H Q E ⟨a, l, rfl, _⟩; rfl) (fun _ _ _ _ _ _ us hl => match us, hl with | [_], _ => rfl) fun cdv A outer s H vs Q E hr h => ⟨_, (pss_cons (ps_if (PW.pt (pw_or (pt_cmpR op_ne (pe_op op_mod (pe_callB call_len_seq (by rfl) T.f_len PySem.boot_len (pa_cons (pv 0) pa_nil)) pe_int) pe_int (by rfl)) (pw_or1 (pt_cmpR op_gt (pe_callB call_len_seq (by rfl) T.f_len PySem.boot_len (pa_cons (pv 0) pa_nil)) (pe_op op_mul pe_int (pe_gi (by rfl) T.c_MOST_HAPPENINGS)) (by rfl))))) (pss_one (ps_ret pe_bl)) pss_nil) (pss_one (ps_ret (pe_callB (cr_all rfl) (by rfl) T.f_all (by decide +kernel) (pa_cons (pe_lc (own := [(("kind" : Str), 1), (("i" : Str), 2), (("x" : Str), 3)]) (g := gTup K 3 (gCons (gName 1) (gCons (gName 2) (gCons (gName 3) gNil)))) (tt := tYes) rfl sc_are_happenings.nd (pi_list (pe_cd (ok_threes_of T) (hr.mono (by decide)) (pa_cons (pv 0) pa_nil))) (blkOk_by (N := ["h", "kind", "i", "x"]) (sc := defScope s_are_happenings) (by decide +kernel)) (fun _ _ _ _ _ => (pg_tup rfl (pgs_cons (pg_name (i := 1) sc_are_happenings.nd rfl (Or.inl rfl)) (pgs_cons (pg_name (i := 2) sc_are_happenings.nd rfl (Or.inl rfl)) (pgs_cons (pg_name (i := 3) sc_are_happenings.nd rfl (Or.inl rfl)) pgs_nil))))) (fun _ _ _ _ _ => pts_nil) (fun _ _ _ _ _ => (pe_cd (ok_is_three T) (hr.mono (by decide)) (pa_cons (pv 1) (pa_cons (pv 2) (pa_cons (pv 3) pa_nil)))))) pa_nil))))), ?_⟩
  obtain ⟨a, l, rfl, hl, hz, q⟩ := h
  have ln : ∀ {H1 : Hp} {σ : L2.St}, Ex H H1 → σ[0]? = some (some (V.ref a)) → Ev (tCB (fun xs H Q => ∃ p ys, xs = [.ref p] ∧ (SqL K H p ys ∨ SqT K H p ys) ∧ Q (.int ys.length) H) (tCons (tVar 0) tNil)) σ H1 (vN l.length) := fun e h0 => ev_is (ev_lenL (ev_var h0) (ex_l e hl)) (by rw [List.length_map])
  refine q_when (b := decide (l.length % 3 ≠ 0 ∨ l.length > 180)) (et_is (et_or (et_test (ev_is (ev_op (ev_op (ln (Ex.refl H) rfl) ev_c (rv_I (by show (0 : Int) < 3; decide))) ev_c (rv_ne rfl)) rfl)) fun _ => et_test (ev_op (ln (Ex.refl H) rfl) (ev_op ev_c ev_c (rv_I (.inl (by decide)))) rv_I0)) ?_)
    (fun hb H1 e1 => s_ret ev_c fun H2 e2 => ?_) (fun hb H1 e1 => ?_)
  · rw [dec_eqI, Bool.eq_iff_iff]
    simp only [Bool.or_eq_true, Bool.not_eq_true', decide_eq_false_iff_not, decide_eq_true_eq]
    omega
  · have : BP.areHap l = false := if_pos (of_decide_eq_true hb)
    rw [this] at q
    exact q H2 (e1.trans e2)
  · have hn := of_decide_eq_false hb
    have e0 : BP.areHap l = ((BP.threes l).map fun t => BP.isThree t.1 t.2.1 t.2.2).all id := by
      unfold BP.areHap
      rw [if_neg hn, List.all_map]; rfl
    rw [e0] at q
    refine s_ret (ev_all (K := K) (el_mapN (ds := (BP.threes l).map e3) (ys := ((BP.threes l).map fun t => BP.isThree t.1 t.2.1 t.2.2).map V.bl) (edl_cd (ea_cons (ev_var rfl) ea_nil) fun H2 e2 Q q => ⟨a, l, rfl, ex_l e2 (ex_l e1 hl), by omega, by omega, q⟩) (e3_tup _) (by rw [List.length_map, BP.threes_len l (by omega)]; omega) (by simp) gm_tup3 fun i d x y H2 e2 hd hx hy => ?_)) fun H3 e3 => q H3 (e1.trans e3)
    rw [List.getElem?_map] at hd
    obtain ⟨t, ht, rfl⟩ := Option.map_eq_some_iff.mp hd
    rw [List.getElem?_map, List.getElem?_map, ht] at hy
    cases hy
    obtain ⟨p, rfl, hp⟩ := dp_3 hx
    exact elt_tup3 hp rfl (ev_cd (ea_cons (ev_var rfl) (ea_cons (ev_var rfl) (ea_cons (ev_var rfl) ea_nil))) fun H3 e3 Q q => ⟨_, _, _, rfl, q⟩)
theorem ok_are_bids (T : Txt K mg) : GD P w K mg base CX0 2 "are_bids" ["bids"] (spAreBids K) := by
  refine gd_of T.d_are_bids T.g_are_bids sc_are_bids (by rintro vs H Q E ⟨a, l, rfl, _⟩; rfl) (fun _ _ _ _ _ _ us hl => match us, hl with | [_], _ => rfl) fun cdv A outer s H vs Q E hr h => ⟨_, (pss_one (ps_ret (pe_and (pe_cmpR op_eq (pe_op op_mod (pe_callB call_len_seq (by rfl) T.f_len PySem.boot_len (pa_cons (pv 0) pa_nil)) pe_int) pe_int (by rfl)) (pe_one (pe_callB (cr_all rfl) (by rfl) T.f_all (by decide +kernel) (pa_cons (pe_lc (own := [(("four" : Str), 1)]) (g := gName 1) (tt := tYes) rfl sc_are_bids.nd (pi_list (pe_cd (ok_fours_of T) (hr.mono (by decide)) (pa_cons (pv 0) pa_nil))) (blkOk_by (N := ["bids", "four"]) (sc := defScope s_are_bids) (by decide +kernel)) (fun _ _ _ _ _ => (pg_name (i := 1) sc_are_bids.nd rfl (Or.inl rfl))) (fun _ _ _ _ _ => pts_nil) (fun _ _ _ _ _ => (pe_cmpR op_le (pe_ix (r := rIxT K) ix_tup (pv 1) pe_int (fun _ _ => rfl)) (pe_gi (by rfl) T.c_ENDED) (by rfl)))) pa_nil)))))), ?_⟩
  obtain ⟨a, l, rfl, hl, hz, q⟩ := h
  have e0 : BP.areBids l = (decide (l.length % 4 = 0) && ((BP.fours l).map fun b => decide (b.kind ≤ 6)).all id) := by
    unfold BP.areBids
    rw [List.all_map]; rfl
  rw [e0] at q
  refine s_ret (ev_andV (a := decide (l.length % 4 = 0)) (ev_is (ev_op (ev_op (ev_is (ev_lenL (ev_var rfl) hl) (by rw [List.length_map])) ev_c (rv_I (by show (0 : Int) < 4; decide))) ev_c (rv_eq rfl)) ?_) fun hm => ?_) fun H3 e3 => q H3 e3
  · rw [dec_eqI]
    exact congrArg V.bl (by rw [Bool.eq_iff_iff]; simp only [decide_eq_true_eq]; omega)
  · have h4 := of_decide_eq_true hm
    refine ev_all (K := K) (el_mapN (ds := (BP.fours l).map eB) (ys := ((BP.fours l).map fun b => decide (b.kind ≤ 6)).map V.bl) (edl_cd (ea_cons (ev_var rfl) ea_nil) fun H2 e2 Q q => ⟨a, l, rfl, ex_l e2 hl, h4, by omega, q⟩) (eB_tup _) (by rw [List.length_map, BP.fours_len l h4]; omega) (by simp) gm_name fun i d x y H2 e2 hd hx hy => ?_)
    rw [List.getElem?_map] at hd
    obtain ⟨b, hb, rfl⟩ := Option.map_eq_some_iff.mp hd
    rw [List.getElem?_map, List.getElem?_map, hb] at hy
    cases hy
    obtain ⟨p, rfl, hp⟩ := dp_B hx
    exact elt_ev rfl (ev_is (ev_op (ev_ixT (i := 0) (ev_var rfl) hp rfl) ev_c rv_I0) (congrArg V.bl (by rw [Bool.eq_iff_iff]; simp only [decide_eq_true_eq]; omega)))
theorem sum_nats : ∀ l : List Nat, (l.map fun (n : Nat) => (n : Int)).sum = ((l.sum : Nat) : Int)
  | [] => rfl
  | a :: l => by rw [List.map_cons, List.sum_cons, List.sum_cons, sum_nats l]; omega
theorem ok_is_book (T : Txt K mg) : GD P w K mg base CX0 3 "is_book" ["h", "sizes", "bids"] (spIsBook K) := by
  refine gd_of T.d_is_book T.g_is_book sc_is_book (by rintro vs H Q E ⟨a, b, c, h, s, l, rfl, _⟩; rfl) (fun _ _ _ _ _ _ us hl => match us, hl with | [_, _, _], _ => rfl) fun cdv A outer s H vs Q E hr h => ⟨_, (pss_cons (ps_if (PW.pt (pw_or (pt_not (pt_val (pe_cd (ok_are_happenings T) (hr.mono (by decide)) (pa_cons (pv 0) pa_nil)))) (pw_or1 (pt_not (pt_val (pe_cd (ok_are_bids T) (hr.mono (by decide)) (pa_cons (pv 2) pa_nil))))))) (pss_one (ps_ret pe_bl)) pss_nil) (pss_one (ps_ret (pe_and (pe_cmpR op_eq (pe_op op_mul pe_int (pe_op op_sub (pe_callB call_len_seq (by rfl) T.f_len PySem.boot_len (pa_cons (pv 1) pa_nil)) pe_int)) (pe_callB call_len_seq (by rfl) T.f_len PySem.boot_len (pa_cons (pv 0) pa_nil)) (by rfl)) (pe_one (pe_cmpR op_eq (pe_op op_mul pe_int (pe_callB (cr_sum rfl) (by rfl) T.f_sum (by decide +kernel) (pa_cons (pv 1) pa_nil))) (pe_callB call_len_seq (by rfl) T.f_len PySem.boot_len (pa_cons (pv 2) pa_nil)) (by rfl))))))), ?_⟩
  obtain ⟨a, b, c, h, sz, l, rfl, ha, hb, hc, h1, h2, h3, q⟩ := h
  refine q_when (b := (!BP.areHap h) || (!BP.areBids l)) (et_or (et_not (et_B (ev_cd (ea_cons (ev_var rfl) ea_nil) fun H2 e2 Q q => ⟨a, h, rfl, ex_l e2 ha, h1, q⟩))) fun _ => et_not (et_B (ev_cd (ea_cons (ev_var rfl) ea_nil) fun H2 e2 Q q => ⟨c, l, rfl, ex_l e2 hc, h3, q⟩)))
    (fun hb H1 e1 => s_ret ev_c fun H2 e2 => ?_) (fun hbb H1 e1 => ?_)
  · rw [Bool.or_eq_true] at hb
    have : BP.isBook h sz l = false := if_pos hb
    rw [this] at q
    exact q H2 (e1.trans e2)
  · have hn : ¬ ((!BP.areHap h) = true ∨ (!BP.areBids l) = true) := fun z => by rw [← Bool.or_eq_true, hbb] at z; cases z
    have e0 : BP.isBook h sz l = (decide (3 * ((sz.length : Int) - 1) = (h.length : Int)) && decide (4 * sz.sum = l.length)) := if_neg hn
    rw [e0] at q
    refine s_ret (ev_andV (ev_is (ev_op (ev_op ev_c (ev_op (ev_is (ev_lenL (ev_var rfl) (ex_l e1 hb)) (by rw [List.length_map])) ev_c rv_I0) (rv_I (.inl (by decide)))) (ev_is (ev_lenL (ev_var rfl) (ex_l e1 ha)) (by rw [List.length_map])) (rv_eq rfl)) (by rw [dec_eqI])) fun _ =>
      ev_is (ev_op (ev_op ev_c (ev_sum (ns := sz.map fun (n : Nat) => (n : Int)) (ev_var rfl) (by rw [List.map_map]; exact ex_l e1 hb)) (rv_I (.inl (by decide)))) (ev_is (ev_lenL (ev_var rfl) (ex_l e1 hc)) (by rw [List.length_map])) (rv_eq rfl)) ?_) fun H3 e3 => q H3 (e1.trans e3)
    rw [dec_eqI, sum_nats]
    exact congrArg V.bl (by rw [Bool.eq_iff_iff]; simp only [decide_eq_true_eq]; omega)
theorem ok_is_of_kind (T : Txt K mg) : GD P w K mg base CX0 1 "is_of_kind" ["bids", "kind", "i"] (spIsKind K) := by
  refine gd_of T.d_is_of_kind T.g_is_of_kind sc_is_of_kind (by rintro vs H Q E ⟨a, b, c, h, rfl, _⟩; rfl) (fun _ _ _ _ _ _ us hl => match us, hl with | [_, _, _], _ => rfl) fun cdv A outer s H vs Q E hr h => ⟨_, (pss_one (ps_ret (pe_and (pe_cmpR op_lt (pv 2) (pe_callB call_len_seq (by rfl) T.f_len PySem.boot_len (pa_cons (pv 0) pa_nil)) (by rfl)) (pe_one (pe_cmpR op_eq (pe_ix ix_tup (pe_ix ix_list (pv 0) (pv 2) (fun _ _ => rfl)) pe_int (fun _ _ => rfl)) (pv 1) (by rfl)))))), ?_⟩
  obtain ⟨a, bs, k, i, rfl, ha, q⟩ := h
  have e0 : BP.isKind bs k i = (decide (i < bs.length) && BP.isKind bs k i) := by
    unfold BP.isKind
    cases e : bs[i]? with
    | none => simp
    | some b => rw [decide_eq_true (List.getElem?_eq_some_iff.mp e).1, Bool.true_and]
  rw [e0] at q
  refine s_ret (ev_andV (a := decide (i < bs.length)) (ev_is (ev_op (ev_var rfl) (ev_is (ev_lenD (ev_var rfl) ha) (by rw [List.length_map])) rv_I0) (congrArg V.bl (by rw [Bool.eq_iff_iff]; simp only [decide_eq_true_eq]; omega))) fun hi => ?_) fun H3 e3 => q H3 e3
  have hlt := of_decide_eq_true hi
  have hb : bs[i]? = some bs[i] := List.getElem?_eq_getElem hlt
  obtain ⟨p, hp1, hp2⟩ := at_B (ta := tVar 0) (tb := tVar 2) (σ := start ["bids", "kind", "i"] [.ref a, vN k, vN i]) ha hb (ev_var rfl) (ev_var rfl)
  have e1 : BP.isKind bs k i = decide (bs[i].kind = k) := by unfold BP.isKind; rw [hb]
  rw [e1]
  exact ev_eqN (ev_ixT (i := 0) hp1 hp2 rfl) (ev_var rfl)
theorem ok_is_bidden_of (T : Txt K mg) : GD P w K mg base CX0 1 "is_bidden_of" ["bids", "kind", "i"] (spIsBidden K) := by
  refine gd_of T.d_is_bidden_of T.g_is_bidden_of sc_is_bidden_of (by rintro vs H Q E ⟨a, b, c, h, rfl, _⟩; rfl) (fun _ _ _ _ _ _ us hl => match us, hl with | [_, _, _], _ => rfl) fun cdv A outer s H vs Q E hr h => ⟨_, (pss_one (ps_ret (pe_cmpR (op_inD (hu65 hr)) (pe_tup (pa_cons (pv 1) (pa_cons (pv 2) (pa_cons pe_int (pa_cons pe_int pa_nil))))) (pv 0) (by rfl)))), ?_⟩
  obtain ⟨a, bs, k, i, rfl, ha, q⟩ := h
  refine s_ret (ev_is (ev_inD (d := eB ⟨k, i, 0, 0⟩) (ep_tupB (b := ⟨k, i, 0, 0⟩) (ea_cons (ev_var rfl) (ea_cons (ev_var rfl) (ea_cons ev_c (ea_cons ev_c ea_nil))))) (fun _ _ => ev_var rfl) ha (eB_tup _) (eB_shaped _) (eBs_shaped _) rfl) ?_) fun H3 e3 => q H3 e3
  refine congrArg V.bl ?_
  unfold BP.isBidden
  rw [List.any_map, List.contains_eq_any_beq]
  congr 1
  funext b
  show PyData.eqv (eB b) (eB ⟨k, i, 0, 0⟩) = _
  rw [eB_eqv, Bool.eq_iff_iff]
  simp only [decide_eq_true_eq, beq_iff_eq]
  exact eq_comm
theorem ok_is_happening_of (T : Txt K mg) : GD P w K mg base CX0 1 "is_happening_of" ["past", "kinds", "i"] (spIsHap K) := by
  refine gd_of T.d_is_happening_of T.g_is_happening_of sc_is_happening_of (by rintro vs H Q E ⟨a, b, c, h, i, rfl, _⟩; rfl) (fun _ _ _ _ _ _ us hl => match us, hl with | [_, _, _], _ => rfl) fun cdv A outer s H vs Q E hr h => ⟨_, (pss_one (ps_ret (pe_callB (cr_any rfl) (by rfl) T.f_any (by decide +kernel) (pa_cons (pe_lc (own := [(("three" : Str), 3)]) (g := gName 3) (tt := tYes) rfl sc_is_happening_of.nd (pi_list (pv 0)) (blkOk_by (N := ["past", "kinds", "i", "three"]) (sc := defScope s_is_happening_of) (by decide +kernel)) (fun _ _ _ _ _ => (pg_name (i := 3) sc_is_happening_of.nd rfl (Or.inl rfl))) (fun _ _ _ _ _ => pts_nil) (fun _ _ _ _ _ => (pe_and (pe_cmpR (r := rIn K false) op_in_seq (pe_ix (r := rIxT K) ix_tup (pv 3) pe_int (fun _ _ => rfl)) (pv 1) (by rfl)) (pe_one (pe_cmpR op_eq (pe_ix (r := rIxT K) ix_tup (pv 3) pe_int (fun _ _ => rfl)) (pv 2) (by rfl)))))) pa_nil)))), ?_⟩
  obtain ⟨a, t, past, ks, i, rfl, ha, hz, ht, q⟩ := h
  have e0 : BP.isHap past ks i = (past.map fun t => decide (t.1 ∈ ks) && decide (t.2.1 = i)).any id := by
    unfold BP.isHap
    rw [List.any_map]; rfl
  rw [e0] at q
  obtain ⟨xs, hx1, hx2⟩ := ha
  have hxl := dpall_len hx2
  rw [List.length_map] at hxl
  refine s_ret (ev_any (K := K) (el_mapL (xs := xs) (ys := (past.map fun t => decide (t.1 ∈ ks) && decide (t.2.1 = i)).map V.bl) (ev_var rfl) hx1 (by omega) (by simp [hxl]) gm_name fun j x y H2 e2 hx hy => ?_)) fun H3 e3 => q H3 e3
  obtain ⟨d, hd, hdx⟩ := dpall_getv hx2 hx
  rw [List.getElem?_map] at hd
  obtain ⟨t3, ht3, rfl⟩ := Option.map_eq_some_iff.mp hd
  rw [List.getElem?_map, List.getElem?_map, ht3] at hy
  cases hy
  obtain ⟨p, rfl, hp⟩ := dp_3 (dp_tk (TK.of e2) _ _ rfl hdx)
  refine elt_ev rfl (ev_andV (ev_is (ev_op (ev_ixT (i := 0) (ev_var rfl) hp rfl) (ev_var rfl) (rv_isT (ex_t e2 ht) rfl (flat_nats ks))) (by rw [inV_nats])) fun _ => ev_eqN (ev_ixT (i := 1) (ev_var rfl) hp rfl) (ev_var rfl))
theorem ok_is_open (T : Txt K mg) : GD P w K mg base CX0 2 "is_open" ["past", "bids", "i"] (spAt K BP.isOpen) := by
  refine gd_of T.d_is_open T.g_is_open sc_is_open (by rintro vs H Q E ⟨a, b, c, h, i, rfl, _⟩; rfl) (fun _ _ _ _ _ _ us hl => match us, hl with | [_, _, _], _ => rfl) fun cdv A outer s H vs Q E hr h => ⟨_, (pss_one (ps_ret (pe_and (pe_cd (ok_is_of_kind T) (hr.mono (by decide)) (pa_cons (pv 1) (pa_cons (pe_gi (by rfl) T.c_ASK) (pa_cons (pv 2) pa_nil)))) (pe_one (pe_not (pe_cd (ok_is_happening_of T) (hr.mono (by decide)) (pa_cons (pv 0) (pa_cons (pe_tup (pa_cons (pe_gi (by rfl) T.c_DONE) (pa_cons (pe_gi (by rfl) T.c_WENT_WRONG) (pa_cons (pe_gi (by rfl) T.c_NEVER_DONE) pa_nil)))) (pa_cons (pv 2) pa_nil))))))))), ?_⟩
  obtain ⟨a, b, past, bs, i, rfl, ha, hz, hb, q⟩ := h
  refine s_ret (ev_andV (a := BP.isKind bs 0 i) (b := !BP.isHap past [0, 1, 2] i) (ev_cd (ea_cons (ev_var rfl) (ea_cons ev_c (ea_cons (ev_var rfl) ea_nil))) fun H2 e2 Q q => ⟨b, bs, 0, i, rfl, hb.ex (eB_tup _) e2, q⟩) fun _ => ev_notV ?_) fun H3 e3 => q H3 e3
  intro H1 e1 Q q
  refine (ev_var rfl : Ev (tVar 0) _ H1 (.ref a)) H1 (Ex.refl H1) _ fun H2 e2 => ?_
  refine ⟨by show 3 ≤ sizeLine; decide, fun p hp => ⟨_, rfl, ?_⟩⟩
  have e3 := Ex.new (o := .tup [vN 0, vN 1, vN 2]) hp
  exact ⟨a, p, past, [0, 1, 2], i, rfl, ha.ex (e3_tup _) ((e1.trans e2).trans e3), hz, st_of upd_same, fun H5 e5 => q H5 ((e2.trans e3).trans e5)⟩
theorem ok_is_step_off (T : Txt K mg) : GD P w K mg base CX0 3 "is_step_off" ["past", "bids", "i"] (spAt K BP.isStepOff) := by
  refine gd_of T.d_is_step_off T.g_is_step_off sc_is_step_off (by rintro vs H Q E ⟨a, b, c, h, i, rfl, _⟩; rfl) (fun _ _ _ _ _ _ us hl => match us, hl with | [_, _, _], _ => rfl) fun cdv A outer s H vs Q E hr h => ⟨_, (pss_one (ps_ret (pe_and (pe_cd (ok_is_open T) (hr.mono (by decide)) (pa_cons (pv 0) (pa_cons (pv 1) (pa_cons (pv 2) pa_nil)))) (pe_one (pe_cd (ok_is_bidden_of T) (hr.mono (by decide)) (pa_cons (pv 1) (pa_cons (pe_gi (by rfl) T.c_STEP_OFF) (pa_cons (pv 2) pa_nil)))))))), ?_⟩
  obtain ⟨a, b, past, bs, i, rfl, ha, hz, hb, q⟩ := h
  exact s_ret (ev_andV (a := BP.isOpen past bs i) (b := BP.isBidden bs 3 i) (ev_cd (ea_cons (ev_var rfl) (ea_cons (ev_var rfl) (ea_cons (ev_var rfl) ea_nil))) fun H2 e2 Q q => ⟨a, b, past, bs, i, rfl, ha.ex (e3_tup _) e2, hz, hb.ex (eB_tup _) e2, q⟩)
    fun _ => ev_cd (ea_cons (ev_var rfl) (ea_cons ev_c (ea_cons (ev_var rfl) ea_nil))) fun H2 e2 Q q => ⟨b, bs, 3, i, rfl, hb.ex (eB_tup _) e2, q⟩) fun H3 e3 => q H3 e3
theorem ok_is_timer (T : Txt K mg) : GD P w K mg base CX0 2 "is_timer" ["past", "bids", "i"] (spAt K BP.isTimer) := by
  refine gd_of T.d_is_timer T.g_is_timer sc_is_timer (by rintro vs H Q E ⟨a, b, c, h, i, rfl, _⟩; rfl) (fun _ _ _ _ _ _ us hl => match us, hl with | [_, _, _], _ => rfl) fun cdv A outer s H vs Q E hr h => ⟨_, (pss_cons (ps_if (PW.pt (pw_or (pt_not (pt_val (pe_cd (ok_is_of_kind T) (hr.mono (by decide)) (pa_cons (pv 1) (pa_cons (pe_gi (by rfl) T.c_TIMER) (pa_cons (pv 2) pa_nil)))))) (pw_or1 (pt_val (pe_cd (ok_is_bidden_of T) (hr.mono (by decide)) (pa_cons (pv 1) (pa_cons (pe_gi (by rfl) T.c_STOP) (pa_cons (pv 2) pa_nil)))))))) (pss_one (ps_ret pe_bl)) pss_nil) (pss_one (ps_ret (pe_not (pe_cd (ok_is_happening_of T) (hr.mono (by decide)) (pa_cons (pv 0) (pa_cons (pe_tup (pa_cons (pe_gi (by rfl) T.c_FIRED) pa_nil)) (pa_cons (pv 2) pa_nil)))))))), ?_⟩
  obtain ⟨a, b, past, bs, i, rfl, ha, hz, hb, q⟩ := h
  refine q_when (b := (!BP.isKind bs 1 i) || BP.isBidden bs 2 i) (et_or (et_not (et_B (ev_cd (ea_cons (ev_var rfl) (ea_cons ev_c (ea_cons (ev_var rfl) ea_nil))) fun H2 e2 Q q => ⟨b, bs, 1, i, rfl, hb.ex (eB_tup _) e2, q⟩)))
    fun _ => et_B (ev_cd (ea_cons (ev_var rfl) (ea_cons ev_c (ea_cons (ev_var rfl) ea_nil))) fun H2 e2 Q q => ⟨b, bs, 2, i, rfl, hb.ex (eB_tup _) e2, q⟩)) (fun h1 H1 e1 => s_ret ev_c fun H2 e2 => ?_) (fun h1 H1 e1 => ?_)
  · rw [Bool.or_eq_true] at h1
    have : BP.isTimer past bs i = false := if_pos h1
    rw [this] at q
    exact q H2 (e1.trans e2)
  · have hn : ¬ ((!BP.isKind bs 1 i) = true ∨ BP.isBidden bs 2 i = true) := fun z => by rw [← Bool.or_eq_true, h1] at z; cases z
    have e0 : BP.isTimer past bs i = !BP.isHap past [3] i := if_neg hn
    rw [e0] at q
    refine s_ret (ev_notV (a := BP.isHap past [3] i) ?_) fun H3 e3 => q H3 (e1.trans e3)
    intro H1' e1' Q q
    refine (ev_var rfl : Ev (tVar 0) _ H1' (.ref a)) H1' (Ex.refl H1') _ fun H2 e2 => ?_
    refine ⟨by show 1 ≤ sizeLine; decide, fun p hp => ⟨_, rfl, ?_⟩⟩
    have e3 := Ex.new (o := .tup [vN 3]) hp
    exact ⟨a, p, past, [3], i, rfl, ha.ex (e3_tup _) (((e1.trans e1').trans e2).trans e3), hz, st_of upd_same, fun H5 e5 => q H5 ((e2.trans e3).trans e5)⟩
end
end BA
/-! ## pages, what may come -/
namespace BA
open PySem PySem.Spec PyProof.Rows L2 Evl
open Ks480 (Bid)
open BP (T3)
/-- a list of pages that stands: each a list of fours -/
def PG (K : PySem.W.Frag) (H : Hp) (p : Addr) (pgs : List (List Bid)) : Prop := ∃ xs, H p = some (.lst xs) ∧ xs.length = pgs.length ∧ ∀ (i : Nat) x, xs[i]? = some x → ∃ a pg ys, x = .ref a ∧ pgs[i]? = some pg ∧ H a = some (.lst ys) ∧ DpAll K H ys (pg.map eB)
theorem PG.ex {K : PySem.W.Frag} {H H' : Hp} {p : Addr} {pgs : List (List Bid)} (h : PG K H p pgs) (e : Ex H H') : PG K H' p pgs := by
  obtain ⟨xs, h1, h2, h3⟩ := h
  refine ⟨xs, e _ _ h1, h2, fun i x hx => ?_⟩
  obtain ⟨a, pg, ys, e1, e2, e3', e4⟩ := h3 i x hx
  exact ⟨a, pg, ys, e1, e2, e _ _ e3', dps_tk (TK.of e) _ _ (eB_tup _) e4⟩
theorem PG.at {K : PySem.W.Frag} {H : Hp} {p : Addr} {pgs : List (List Bid)} (h : PG K H p pgs) {i : Nat} {pg : List Bid} (hi : pgs[i]? = some pg) : ∃ xs a ys, H p = some (.lst xs) ∧ xs[i]? = some (.ref a) ∧ H a = some (.lst ys) ∧ DpAll K H ys (pg.map eB) := by
  obtain ⟨xs, h1, h2, h3⟩ := h
  have hlt := (List.getElem?_eq_some_iff.mp hi).1
  have hx : xs[i]? = some xs[i] := List.getElem?_eq_getElem (by omega)
  obtain ⟨a, pg', ys, e1, e2, e3', e4⟩ := h3 i _ hx
  rw [hi] at e2
  cases e2
  exact ⟨xs, a, ys, h1, by rw [hx, e1], e3', e4⟩
theorem PG.len {K : PySem.W.Frag} {H : Hp} {p : Addr} {pgs : List (List Bid)} (h : PG K H p pgs) : ∃ xs, H p = some (.lst xs) ∧ xs.length = pgs.length := by
  obtain ⟨xs, h1, h2, _⟩ := h
  exact ⟨xs, h1, h2⟩
def spPagesOf (K : PySem.W.Frag) : Sp := fun vs H Q _ => ∃ (a b : Addr) (s l : List Nat), vs = [.ref a, .ref b] ∧ SqL K H a (s.map vN) ∧ SqL K H b (l.map vN) ∧ l.length % 4 = 0 ∧ s.length ≤ 1000 ∧ l.length ≤ 1000 ∧ s.sum ≤ 1000 ∧
  ∀ p H2, H p = none → Ex H H2 → PG K H2 p (BP.pagesOf s (BP.fours l)) → Q (.ref p) H2
def spIsOver (K : PySem.W.Frag) : Sp := fun vs H Q _ => ∃ (b : Addr) (bs : List Bid), vs = [.ref b] ∧ LD K H b (bs.map eB) ∧ bs.length < 10000000 ∧ RetV (.bl (BP.isOver bs)) H Q
def spMayCome (K : PySem.W.Frag) : Sp := fun vs H Q _ => ∃ (a b c : Addr) (past : List T3) (bs : List Bid) (t : T3), vs = [.ref a, .ref b, .ref c] ∧ LD K H a (past.map e3) ∧ past.length ≤ 1000 ∧ LD K H b (bs.map eB) ∧ bs.length < 10000000 ∧ SqT K H c [vN t.1, vN t.2.1, vN t.2.2] ∧ RetV (.bl (BP.mayCome past bs t)) H Q
def spIsSound (K : PySem.W.Frag) : Sp := fun vs H Q _ => ∃ (a b : Addr) (ts : List T3) (pgs : List (List Bid)), vs = [.ref a, .ref b] ∧ LD K H a (ts.map e3) ∧ PG K H b pgs ∧ ts.length ≤ 1000 ∧ pgs.length = ts.length + 1 ∧ pgs.flatten.length ≤ 1000 ∧ RetV (.bl (BP.isSound ts pgs)) H Q
section
variable {K : PySem.W.Frag} {σ : L2.St} {H H' : Hp} {ta tb te tx tl : TE} {t u : TT} {x y z v : V} {r : R2} {g : TG} {vs : List Nat} {D : Ends} {tz tu tw : TS}
/-- k, i, x = three -/
theorem q_unpack3 {a : Addr} {i j k : Nat} {v1 v2 v3 : V} (h : Ev te σ H (.ref a)) (ht : SqT K H a [v1, v2, v3]) (kk : ∀ H1, Ex H H1 → tz D (((σ.set i (some v1)).set j (some v2)).set k (some v3)) H1) :
    tSeq (tAsg te (gTup K 3 (gCons (gName i) (gCons (gName j) (gCons (gName k) gNil))))) tz D σ H :=
  h H (Ex.refl H) _ fun H1 e1 => ⟨a, _, rfl, ex_t e1 ht, rfl, _, _, rfl, _, _, rfl, _, _, rfl, rfl, kk H1 e1⟩
theorem cut_nat {l : List V} {n : Nat} : cutV l none (some (n : Int)) = l.take n := by
  unfold cutV
  rw [HT.sIx_none, HT.sIx_nat, List.drop_zero, Nat.sub_zero]
  by_cases h : n ≤ l.length
  · rw [Nat.min_eq_left h]
  · rw [Nat.min_eq_right (by omega), List.take_of_length_le (by omega), List.take_of_length_le (by omega)]
theorem cut_from {l : List V} {n : Nat} : cutV l (some (n : Int)) none = l.drop n := by
  unfold cutV
  rw [HT.sIx_none, HT.sIx_nat]
  by_cases h : n ≤ l.length
  · rw [Nat.min_eq_left h, List.take_of_length_le (by rw [List.length_drop]; omega)]
  · rw [Nat.min_eq_right (by omega), List.drop_of_length_le (by omega), List.drop_of_length_le (by omega), List.take_nil]
theorem cut_mid {l : List V} {n m : Nat} : cutV l (some (n : Int)) (some ((n + m : Nat) : Int)) = (l.drop n).take m := by
  unfold cutV
  rw [HT.sIx_nat, HT.sIx_nat]
  by_cases h : n ≤ l.length
  · rw [Nat.min_eq_left h]
    by_cases h2 : n + m ≤ l.length
    · rw [Nat.min_eq_left h2, Nat.add_sub_cancel_left]
    · rw [Nat.min_eq_right (by omega), List.take_of_length_le (by rw [List.length_drop]; omega), List.take_of_length_le (by rw [List.length_drop]; omega)]
  · rw [Nat.min_eq_right (by omega), List.drop_of_length_le (by omega), List.take_nil, List.drop_of_length_le (by omega), List.take_nil]
end
section
variable {P : Program} {w : World} {K : PySem.W.Frag} {mg : Str → Option Value} {base : Heap}
theorem pagesOf_drop : ∀ (s : List Nat) (b : List Bid) (i : Nat), BP.pagesOf (s.drop i) (b.drop (s.take i).sum) = (BP.pagesOf s b).drop i
  | s, b, 0 => by simp
  | [], b, i + 1 => by simp [BP.pagesOf]
  | n :: s, b, i + 1 => by
    show BP.pagesOf (s.drop i) (b.drop (n + (s.take i).sum)) = (BP.pagesOf s (b.drop n)).drop i
    rw [← List.drop_drop]
    exact pagesOf_drop s (b.drop n) i
theorem pagesOf_at {s : List Nat} {b : List Bid} {i n : Nat} (h : s[i]? = some n) : (BP.pagesOf s b)[i]? = some ((b.drop (s.take i).sum).take n) := by
  have h1 := pagesOf_drop s b i
  have hlt := (List.getElem?_eq_some_iff.mp h).1
  have hn : s[i] = n := (List.getElem?_eq_some_iff.mp h).2
  have h2 : s.drop i = n :: s.drop (i + 1) := by rw [List.drop_eq_getElem_cons hlt, hn]
  rw [h2] at h1
  have h3 := congrArg (fun l : List (List Bid) => l[0]?) h1
  simp only [List.getElem?_drop, Nat.add_zero] at h3
  rw [← h3]; rfl
theorem sum_take_le : ∀ (l : List Nat) (i : Nat), (l.take i).sum ≤ l.sum
  | _, 0 => by simp
  | [], _ + 1 => by simp
  | a :: l, i + 1 => by rw [List.take_succ_cons, List.sum_cons, List.sum_cons]; have := sum_take_le l i; omega
theorem sum_take_succ {l : List Nat} {i n : Nat} (h : l[i]? = some n) : (l.take (i + 1)).sum = (l.take i).sum + n := by
  have hlt := (List.getElem?_eq_some_iff.mp h).1
  have hn : l[i] = n := (List.getElem?_eq_some_iff.mp h).2
  rw [List.take_succ_eq_append_getElem hlt, List.sum_append, hn]; simp
theorem ok_pages_of (T : Txt K mg) : GD P w K mg base CX0 2 "pages_of" ["sizes", "bids"] (spPagesOf K) := by
  refine gd_of T.d_pages_of T.g_pages_of sc_pages_of (by rintro vs H Q E ⟨a, b, c, h, rfl, _⟩; rfl) (fun _ _ _ _ _ _ us hl => match us, hl with | [_, _], _ => rfl) fun cdv A outer s H vs Q E hr h => ⟨_, (pss_cons (ps_set (i := 2) sc_pages_of.nd rfl (Or.inl rfl) (pe_cd (ok_fours_of T) (hr.mono (by decide)) (pa_cons (pv 1) pa_nil))) (pss_cons (ps_set (i := 3) sc_pages_of.nd rfl (Or.inl rfl) (pe_lst pa_nil)) (pss_cons (ps_set (i := 4) sc_pages_of.nd rfl (Or.inl rfl) pe_int) (pss_cons (ps_for PassesOwn.never rfl (pi_list (pv 0)) (pg_name (i := 5) sc_pages_of.nd rfl (Or.inl rfl)) (pss_cons (ps_expr (pe_bm PySem.F.plainAttrs_list PySem.F.slot_list_append PySem.F.type_list_append mt_append (pv 3) (pa_cons (pe_slice sl_list (pv 2) (po_some (pv 4)) (po_some (pe_op op_add (pv 4) (pv 5)))) pa_nil))) (pss_one (ps_set (i := 4) sc_pages_of.nd rfl (Or.inl rfl) (pe_op op_add (pv 4) (pv 5)))))) (pss_one (ps_ret (pv 3))))))), ?_⟩
  obtain ⟨a, b, sz, l, rfl, ha, hb, h4, h1, h2, h3, q⟩ := h
  have l4 : (BP.fours l).length = l.length / 4 := BP.fours_len l h4
  refine q_asgDL (K := K) (ds := (BP.fours l).map eB) (edl_cd (ea_cons (ev_var rfl) ea_nil) fun H2 e2 Q q => ⟨b, l, rfl, ex_l e2 hb, h4, h2, q⟩) fun pf xf H1 hp1 e1 hf hdf => ?_
  refine q_asgL (xs := []) (el_lst ea_nil (by decide)) fun pp H2 hp2 e2 hpp => ?_
  refine q_asg (v := vN 0) ev_c fun H3 e3' => ?_
  have n1 : H1 pp = none := hp2
  let PJ : Nat → Hp → Prop := fun i H' => ∃ xs, H' pp = some (.lst xs) ∧ xs.length = i ∧ ∀ (j : Nat) x, xs[j]? = some x → ∃ a pg ys, x = V.ref a ∧ a ≠ pp ∧ (BP.pagesOf sz (BP.fours l))[j]? = some pg ∧ H' a = some (.lst ys) ∧ DpAll K H' ys (pg.map eB)
  refine q_forLn (K := K) (a := a) (xs := sz.map vN) (ev_var rfl) (ex_l ((e1.trans e2).trans e3') ha)
    (fun i σ H' => ∃ v5, σ = [some (.ref a), some (.ref b), some (.ref pf), some (.ref pp), some (vN (sz.take i).sum), v5] ∧ Ex H1 H' ∧ PJ i H') (fun H4 e4 => ?_) (fun i σ' H' hi ⟨_, _, e', _⟩ => ex_l (e1.trans e') ha) (fun i x σ' H' hx hp => ?_) (fun σ' H' hp => ?_)
  · refine ⟨none, rfl, (e2.trans e3').trans e4, [], e4 _ _ (e3' _ _ hpp), by simp, fun i x hx => by simp at hx⟩
  · obtain ⟨v5, rfl, e', xs, hx1, hx2, hx3⟩ := hp
    rw [List.getElem?_map] at hx
    obtain ⟨n, hn, rfl⟩ := Option.map_eq_some_iff.mp hx
    have hlt := (List.getElem?_eq_some_iff.mp hn).1
    have hpa := pagesOf_at (b := BP.fours l) hn
    refine q_appL (ys := (xf.drop (sz.take i).sum).take n) hx1 (ev_var rfl) ?_ (by omega) fun p4 H4 hp4 e4 h4 => ?_
    · rw [← cut_mid]
      exact el_sl (K := K) (ev_var rfl) (eo_some (ev_var rfl)) (eo_some (ev_is (ev_op (ev_var rfl) (ev_var rfl) rv_I0) rfl)) (sq_of (e' _ _ hf))
    · refine s_asg (v := vN (sz.take (i + 1)).sum) (ev_is (ev_op (ev_var rfl) (ev_var rfl) rv_I0) ?_) fun H5 e5 => ⟨some (vN n), rfl, ?_, ?_⟩
      · rw [sum_take_succ hn]; rfl
      · exact (Ex.mut (e'.trans e4) n1).trans e5
      · have q4 : H4 pp = some (.lst xs) := e4 _ _ hx1
        have pne : p4 ≠ pp := fun z => by rw [z, hx1] at hp4; cases hp4
        have tk : TK H4 (upd H4 pp (.lst (xs ++ [.ref p4]))) := TK.updL q4
        refine ⟨xs ++ [.ref p4], e5 _ _ upd_same, by rw [List.length_append, hx2]; rfl, fun j x hj => ?_⟩
        by_cases hjl : j < xs.length
        · rw [List.getElem?_append_left hjl] at hj
          obtain ⟨a', pg, ys, r1, na, r2, r3, r4⟩ := hx3 j x hj
          exact ⟨a', pg, ys, r1, na, r2, e5 _ _ (by rw [upd_ne na]; exact e4 _ _ r3), dps_tk (((TK.of e4).trans tk).trans (TK.of e5)) _ _ (eB_tup _) r4⟩
        · have ej : j = xs.length := by
            have := (List.getElem?_eq_some_iff.mp hj).1
            rw [List.length_append] at this
            simp at this
            omega
          subst ej
          rw [List.getElem?_append_right (Nat.le_refl _), Nat.sub_self] at hj
          cases hj
          refine ⟨p4, (((BP.fours l).drop (sz.take i).sum).take n), _, rfl, pne, by rw [hx2]; exact hpa, e5 _ _ (by rw [upd_ne pne]; exact h4), ?_⟩
          rw [List.map_take, List.map_drop]
          exact dps_tk (((TK.of (e'.trans e4)).trans tk).trans (TK.of e5)) _ _ (by rw [← List.map_drop, ← List.map_take]; exact eB_tup _) (dpall_take _ (dpall_drop _ hdf))
  · obtain ⟨v5, rfl, e', xs, hx1, hx2, hx3⟩ := hp
    rw [List.length_map] at hx2
    refine s_ret (ev_var rfl) fun H5 e5 => q pp H5 (fresh_back e1 n1) ((e1.trans e').trans e5) (PG.ex ⟨xs, hx1, by rw [hx2, BP.pagesOf_len], fun j x hj => ?_⟩ e5)
    obtain ⟨a', pg, ys, r1, na, r2, r3, r4⟩ := hx3 j x hj
    exact ⟨a', pg, ys, r1, r2, r3, r4⟩
theorem ok_is_over (T : Txt K mg) : GD P w K mg base CX0 1 "is_over" ["bids"] (spIsOver K) := by
  refine gd_of T.d_is_over T.g_is_over sc_is_over (by rintro vs H Q E ⟨a, b, rfl, _⟩; rfl) (fun _ _ _ _ _ _ us hl => match us, hl with | [_], _ => rfl) fun cdv A outer s H vs Q E hr h => ⟨_, (pss_one (ps_ret (pe_callB (cr_any rfl) (by rfl) T.f_any (by decide +kernel) (pa_cons (pe_lc (own := [(("bid" : Str), 1)]) (g := gName 1) (tt := tYes) rfl sc_is_over.nd (pi_list (pv 0)) (blkOk_by (N := ["bids", "bid"]) (sc := defScope s_is_over) (by decide +kernel)) (fun _ _ _ _ _ => (pg_name (i := 1) sc_is_over.nd rfl (Or.inl rfl))) (fun _ _ _ _ _ => pts_nil) (fun _ _ _ _ _ => (pe_cmpR op_eq (pe_ix (r := rIxT K) ix_tup (pv 1) pe_int (fun _ _ => rfl)) (pe_gi (by rfl) T.c_ENDED) (by rfl)))) pa_nil)))), ?_⟩
  obtain ⟨a, bs, rfl, ha, hz, q⟩ := h
  have e0 : BP.isOver bs = (bs.map fun b => decide (b.kind = 6)).any id := by
    unfold BP.isOver
    rw [List.any_map]; rfl
  rw [e0] at q
  obtain ⟨xs, hx1, hx2⟩ := ha
  have hxl := dpall_len hx2
  rw [List.length_map] at hxl
  refine s_ret (ev_any (K := K) (el_mapL (xs := xs) (ys := (bs.map fun b => decide (b.kind = 6)).map V.bl) (ev_var rfl) hx1 (by omega) (by simp [hxl]) gm_name fun j x y H2 e2 hx hy => ?_)) fun H3 e3 => q H3 e3
  obtain ⟨d, hd, hdx⟩ := dpall_getv hx2 hx
  rw [List.getElem?_map] at hd
  obtain ⟨b, hb, rfl⟩ := Option.map_eq_some_iff.mp hd
  rw [List.getElem?_map, List.getElem?_map, hb] at hy
  cases hy
  obtain ⟨p, rfl, hp⟩ := dp_B (dp_tk (TK.of e2) _ _ rfl hdx)
  exact elt_ev rfl (ev_eqN (b := 6) (ev_ixT (i := 0) (ev_var rfl) hp rfl) ev_c)
theorem ok_may_come (T : Txt K mg) : GD P w K mg base CX0 4 "may_come" ["past", "bids", "three"] (spMayCome K) := by
  refine gd_of T.d_may_come T.g_may_come sc_may_come (by rintro vs H Q E ⟨a, b, c, d, e, f, rfl, _⟩; rfl) (fun _ _ _ _ _ _ us hl => match us, hl with | [_, _, _], _ => rfl) fun cdv A outer s H vs Q E hr h => ⟨_, (pss_cons (ps_asg (pv 2) (pg_tup rfl (pgs_cons (pg_name (i := 3) sc_may_come.nd rfl (Or.inl rfl)) (pgs_cons (pg_name (i := 4) sc_may_come.nd rfl (Or.inl rfl)) (pgs_cons (pg_name (i := 5) sc_may_come.nd rfl (Or.inl rfl)) pgs_nil))))) (pss_cons (ps_if (pt_val (pe_cd (ok_is_over T) (hr.mono (by decide)) (pa_cons (pv 1) pa_nil))) (pss_one (ps_ret pe_bl)) pss_nil) (pss_cons (ps_if (pt_cmpR op_in_seq (pv 3) (pe_tup (pa_cons (pe_gi (by rfl) T.c_DONE) (pa_cons (pe_gi (by rfl) T.c_WENT_WRONG) pa_nil))) (by rfl)) (pss_one (ps_ret (pe_cd (ok_is_open T) (hr.mono (by decide)) (pa_cons (pv 0) (pa_cons (pv 1) (pa_cons (pv 4) pa_nil)))))) pss_nil) (pss_cons (ps_if (pt_cmpR op_eq (pv 3) (pe_gi (by rfl) T.c_NEVER_DONE) (by rfl)) (pss_one (ps_ret (pe_cd (ok_is_step_off T) (hr.mono (by decide)) (pa_cons (pv 0) (pa_cons (pv 1) (pa_cons (pv 4) pa_nil)))))) pss_nil) (pss_cons (ps_if (pt_cmpR op_eq (pv 3) (pe_gi (by rfl) T.c_FIRED) (by rfl)) (pss_one (ps_ret (pe_cd (ok_is_timer T) (hr.mono (by decide)) (pa_cons (pv 0) (pa_cons (pv 1) (pa_cons (pv 4) pa_nil)))))) pss_nil) (pss_cons (ps_if (pt_cmpR op_eq (pv 3) (pe_gi (by rfl) T.c_WORD) (by rfl)) (pss_one (ps_ret (pe_cmpR op_lt (pv 4) (pe_gi (by rfl) T.c_KINDS_OF_WORDS) (by rfl)))) pss_nil) (pss_one (ps_ret (pe_not (pe_callB (cr_any rfl) (by rfl) T.f_any (by decide +kernel) (pa_cons (pe_lc (own := [(("earlier" : Str), 6)]) (g := gName 6) (tt := tYes) rfl sc_may_come.nd (pi_list (pv 0)) (blkOk_by (N := ["past", "bids", "three", "kind", "i", "x", "earlier"]) (sc := defScope s_may_come) (by decide +kernel)) (fun _ _ _ _ _ => (pg_name (i := 6) sc_may_come.nd rfl (Or.inl rfl))) (fun _ _ _ _ _ => pts_nil) (fun _ _ _ _ _ => (pe_cmpR op_eq (pe_ix (r := rIxT K) ix_tup (pv 6) pe_int (fun _ _ => rfl)) (pe_gi (by rfl) T.c_ERRAND_OFF) (by rfl)))) pa_nil))))))))))), ?_⟩
  obtain ⟨a, b, c, past, bs, t, rfl, ha, h1, hb, h2, hc, q⟩ := h
  refine q_unpack3 (ev_var rfl) hc fun H1 e1 => ?_
  have LT := fun {H' : Hp} (e : Ex H1 H') => ha.ex (e3_tup _) (e1.trans e)
  have LB := fun {H' : Hp} (e : Ex H1 H') => hb.ex (eB_tup _) (e1.trans e)
  unfold BP.mayCome at q
  refine q_when (b := BP.isOver bs) (et_B (ev_cd (ea_cons (ev_var rfl) ea_nil) fun H2 e2 Q q => ⟨b, bs, rfl, LB e2, h2, q⟩)) (fun hb H2 e2 => s_ret ev_c fun H3 e3 => ?_) (fun hb H2 e2 => ?_)
  · rw [if_pos hb] at q
    exact q H3 ((e1.trans e2).trans e3)
  rw [if_neg (by rw [hb]; exact Bool.false_ne_true)] at q
  refine q_when (b := decide (t.1 ∈ [0, 1])) (et_in (ks := [0, 1]) (ev_var rfl) (eu_tup (ea_cons ev_c (ea_cons ev_c ea_nil)) (by decide))) (fun hb H3 e3 => s_ret (ev_cd (ea_cons (ev_var rfl) (ea_cons (ev_var rfl) (ea_cons (ev_var rfl) ea_nil))) fun H4 e4 Q q => ⟨a, b, past, bs, t.2.1, rfl, LT ((e2.trans e3).trans e4), h1, LB ((e2.trans e3).trans e4), q⟩) fun H4 e4 => ?_) (fun hb H3 e3 => ?_)
  · rw [if_pos (show t.1 = 0 ∨ t.1 = 1 by simpa using of_decide_eq_true hb)] at q
    exact q H4 (((e1.trans e2).trans e3).trans e4)
  rw [if_neg (show ¬ (t.1 = 0 ∨ t.1 = 1) from fun z => of_decide_eq_false hb (by simpa using z))] at q
  refine q_when (b := decide (t.1 = 2)) (et_test (ev_eqN (b := 2) (ev_var rfl) ev_c)) (fun hb H4 e4 => s_ret (ev_cd (ea_cons (ev_var rfl) (ea_cons (ev_var rfl) (ea_cons (ev_var rfl) ea_nil))) fun H5 e5 Q q => ⟨a, b, past, bs, t.2.1, rfl, LT (((e2.trans e3).trans e4).trans e5), h1, LB (((e2.trans e3).trans e4).trans e5), q⟩) fun H5 e5 => ?_) (fun hb H4 e4 => ?_)
  · rw [if_pos (of_decide_eq_true hb)] at q
    exact q H5 ((((e1.trans e2).trans e3).trans e4).trans e5)
  rw [if_neg (of_decide_eq_false hb)] at q
  refine q_when (b := decide (t.1 = 3)) (et_test (ev_eqN (b := 3) (ev_var rfl) ev_c)) (fun hb H5 e5 => s_ret (ev_cd (ea_cons (ev_var rfl) (ea_cons (ev_var rfl) (ea_cons (ev_var rfl) ea_nil))) fun H6 e6 Q q => ⟨a, b, past, bs, t.2.1, rfl, LT ((((e2.trans e3).trans e4).trans e5).trans e6), h1, LB ((((e2.trans e3).trans e4).trans e5).trans e6), q⟩) fun H6 e6 => ?_) (fun hb H5 e5 => ?_)
  · rw [if_pos (of_decide_eq_true hb)] at q
    exact q H6 (((((e1.trans e2).trans e3).trans e4).trans e5).trans e6)
  rw [if_neg (of_decide_eq_false hb)] at q
  refine q_when (b := decide (t.1 = 4)) (et_test (ev_eqN (b := 4) (ev_var rfl) ev_c)) (fun hb H6 e6 => s_ret (v := V.bl (decide (t.2.1 < 4))) (ev_is (ev_op (ev_var rfl) ev_c rv_I0) ?_) fun H7 e7 => ?_) (fun hb H6 e6 => ?_)
  · exact congrArg V.bl (by rw [Bool.eq_iff_iff]; simp only [decide_eq_true_eq]; omega)
  · rw [if_pos (of_decide_eq_true hb)] at q
    exact q H7 ((((((e1.trans e2).trans e3).trans e4).trans e5).trans e6).trans e7)
  rw [if_neg (of_decide_eq_false hb)] at q
  have E6 := ((((e1.trans e2).trans e3).trans e4).trans e5).trans e6
  have e0 : BP.isCalled past = (past.map fun t => decide (t.1 = 5)).any id := by
    unfold BP.isCalled
    rw [List.any_map]; rfl
  rw [e0] at q
  obtain ⟨xs, hx1, hx2⟩ := ha.ex (e3_tup _) E6
  have hxl := dpall_len hx2
  rw [List.length_map] at hxl
  refine s_ret (ev_notV (ev_any (K := K) (el_mapL (xs := xs) (ys := (past.map fun t => decide (t.1 = 5)).map V.bl) (ev_var rfl) hx1 (by omega) (by simp [hxl]) gm_name fun j x y H2 e2 hx hy => ?_))) fun H7 e7 => q H7 (E6.trans e7)
  obtain ⟨d, hd, hdx⟩ := dpall_getv hx2 hx
  rw [List.getElem?_map] at hd
  obtain ⟨b, hb, rfl⟩ := Option.map_eq_some_iff.mp hd
  rw [List.getElem?_map, List.getElem?_map, hb] at hy
  cases hy
  obtain ⟨p, rfl, hp⟩ := dp_3 (dp_tk (TK.of e2) _ _ rfl hdx)
  exact elt_ev rfl (ev_eqN (b := 5) (ev_ixT (i := 0) (ev_var rfl) hp rfl) ev_c)
end
end BA
/-! ## sound -/
namespace BA
open PySem PySem.Spec PyProof.Rows L2 Evl
open Ks480 (Bid)
open BP (T3)
def spSound (K : PySem.W.Frag) : Sp := fun vs H Q _ => ∃ (a b c : Addr) (h s l : List Nat), vs = [.ref a, .ref b, .ref c] ∧ SqL K H a (h.map vN) ∧ SqL K H b (s.map vN) ∧ SqL K H c (l.map vN) ∧ h.length ≤ 200 ∧ s.length ≤ 80 ∧ l.length ≤ 800 ∧ RetL ((BP.soundAns h s l).map V.int) H Q
section
variable {K : PySem.W.Frag} {σ : L2.St} {H H' : Hp} {ta tb te tx tl : TE} {D : Ends} {tz tu tw : TS}
theorem q_ext {l b : Addr} {xs zs : List V} (hl : H l = some (.lst xs)) (hb : H b = some (.lst zs)) (ha : Ev ta σ H (.ref l)) (h : Ev te σ H (.ref b)) (hz : xs.length + zs.length ≤ 10000000) (k : ∀ H1, Ex H H1 → tz D σ (upd H1 l (.lst (xs ++ zs)))) :
    tSeq (tDrop (tBM K "list" rExtend ta (tCons te tNil))) tz D σ H := ha H (Ex.refl H) _ fun H1 e1 =>
  ⟨Or.inl ⟨rfl, xs, sq_of (e1 l _ hl)⟩, h H1 e1 _ fun H2 e2 => ⟨l, b, xs, zs, rfl, rfl, e2 l _ (e1 l _ hl), e2 b _ (e1 b _ hb), Nat.le_trans hz (by decide), k H2 (e1.trans e2)⟩⟩
end
section
variable {P : Program} {w : World} {K : PySem.W.Frag} {mg : Str → Option Value} {base : Heap}
theorem flat_take_le {l : List (List Bid)} (i : Nat) : (l.take i).flatten.length ≤ l.flatten.length := by
  have := congrArg (fun l : List (List Bid) => l.flatten.length) (List.take_append_drop i l)
  simp only [List.flatten_append, List.length_append] at this
  omega
theorem ok_is_sound (T : Txt K mg) : GD P w K mg base CX0 5 "is_sound" ["threes", "pages"] (spIsSound K) := by
  refine gd_of T.d_is_sound T.g_is_sound sc_is_sound (by rintro vs H Q E ⟨a, b, c, d, rfl, _⟩; rfl) (fun _ _ _ _ _ _ us hl => match us, hl with | [_, _], _ => rfl) fun cdv A outer s H vs Q E hr h => ⟨_, (pss_cons (ps_set (i := 2) sc_is_sound.nd rfl (Or.inl rfl) (pe_lst pa_nil)) (pss_cons (ps_for PassesOwn.never rfl (pi_range1 (by rfl) T.f_range (pa_cons (pe_callB call_len_seq (by rfl) T.f_len PySem.boot_len (pa_cons (pv 0) pa_nil)) pa_nil)) (pg_name (i := 3) sc_is_sound.nd rfl (Or.inl rfl)) (pss_cons (ps_expr (pe_bm PySem.F.plainAttrs_list PySem.F.slot_list_extend PySem.F.type_list_extend mt_extend (pv 2) (pa_cons (pe_ix ix_list (pv 1) (pv 3) (fun _ _ => rfl)) pa_nil))) (pss_one (ps_if (pt_not (pt_val (pe_cd (ok_may_come T) (hr.mono (by decide)) (pa_cons (pe_slice sl_list (pv 0) po_none (po_some (pv 3))) (pa_cons (pv 2) (pa_cons (pe_ix ix_list (pv 0) (pv 3) (fun _ _ => rfl)) pa_nil)))))) (pss_one (ps_ret pe_bl)) pss_nil)))) (pss_one (ps_ret pe_bl)))), ?_⟩
  obtain ⟨a, b, ts, pgs, rfl, ha, hb, h1, h2, h3, q⟩ := h
  refine q_asgL (xs := []) (el_lst ea_nil (by decide)) fun bl H1 n1 e1 hbl => ?_
  have LT := fun {H' : Hp} (e : Ex H H') => ha.ex (e3_tup _) e
  refine q_forR1 (n := (ts.length : Int)) (ea_cons (ev_is (ev_lenD (ev_var rfl) (LT e1)) (by rw [List.length_map])) ea_nil) ⟨by omega, by omega⟩
    (fun i σ H' => ∃ v, σ = [some (.ref a), some (.ref b), some (.ref bl), v] ∧ Ex H H' ∧ ∃ xs, H' bl = some (.lst xs) ∧ DpAll K H' xs ((pgs.take i).flatten.map eB) ∧ BP.isSound ts pgs = BP.soundFrom ts pgs (ts.length - i) i (pgs.take i).flatten) (fun H2 e2 => ?_) (fun i σ' H' hi hp => ?_) (fun σ' H' hp => ?_)
  · exact ⟨none, rfl, e1.trans e2, [], e2 _ _ hbl, .nil, rfl⟩
  · obtain ⟨v, rfl, e', xs, hx, hxs, hs⟩ := hp
    have hi' : i < ts.length := by omega
    have hpg : pgs[i]? = some pgs[i] := List.getElem?_eq_getElem (by omega)
    obtain ⟨ps, pa, ys, g1, g2, g3, g4⟩ := (hb.ex e').at hpg
    have nb : pa ≠ bl := fun z => by
      obtain ⟨ps', pa', ys', g1', g2', g3', g4'⟩ := hb.at hpg
      rw [z] at g2
      have := e' _ _ g1'
      rw [g1] at this
      cases this
      rw [g2] at g2'
      cases g2'
      rw [n1] at g3'
      cases g3'
    have hxl := dpall_len hxs
    have hyl := dpall_len g4
    rw [List.length_map] at hxl hyl
    have hfl : (pgs.take (i + 1)).flatten = (pgs.take i).flatten ++ pgs[i] := by
      rw [List.take_succ_eq_append_getElem (by omega), List.flatten_append]; simp
    have bnd := flat_take_le (l := pgs) (i + 1)
    rw [hfl, List.length_append] at bnd
    refine q_ext (l := bl) (b := pa) hx g3 (ev_var rfl) (ev_ixL (ev_var rfl) (sq_of g1) (ev_var rfl) g2) (by omega) fun H2 e2 => ?_
    have tk : TK H2 (upd H2 bl (.lst (xs ++ ys))) := TK.updL (e2 _ _ hx)
    have E2 : Ex H (upd H2 bl (.lst (xs ++ ys))) := Ex.mut (e'.trans e2) n1
    generalize hH3 : upd H2 bl (.lst (xs ++ ys)) = H3 at *
    have hb3 : H3 bl = some (.lst (xs ++ ys)) := by rw [← hH3]; exact upd_same
    have hd3 : DpAll K H3 (xs ++ ys) ((pgs.take (i + 1)).flatten.map eB) := by
      rw [hfl, List.map_append]
      exact dpall_app (dps_tk ((TK.of e2).trans tk) _ _ (eB_tup _) hxs) (dps_tk ((TK.of e2).trans tk) _ _ (eB_tup _) g4)
    have ht : ts[i]? = some ts[i] := List.getElem?_eq_getElem hi'
    have hgd : ts.getD i (0, 0, 0) = ts[i] := by rw [List.getD_eq_getElem?_getD, ht]; rfl
    have hgp : pgs.getD i [] = pgs[i] := by rw [List.getD_eq_getElem?_getD, hpg]; rfl
    have hsf : BP.isSound ts pgs = if BP.mayCome (ts.take i) (pgs.take (i + 1)).flatten ts[i] = true then BP.soundFrom ts pgs (ts.length - (i + 1)) (i + 1) (pgs.take (i + 1)).flatten else false := by
      rw [hs, show ts.length - i = (ts.length - (i + 1)) + 1 by omega]
      show (if _ then _ else _) = _
      rw [hgd, hgp, ← hfl]
    refine s_when (b := !BP.mayCome (ts.take i) (pgs.take (i + 1)).flatten ts[i]) ?_ (fun hm H4 e4 => s_ret ev_c fun H5 e5 => ?_) (fun hm H4 e4 => ?_)
    · intro H4 e4 Q q
      obtain ⟨xt, hxt, hdt⟩ := LT (E2.trans e4)
      refine (el_sl (K := K) (ev_var rfl) eo_none (eo_some (ev_var rfl)) hxt : EvL _ _ H4 (cutV xt none (some ((i : Nat) : Int)))) H4 (Ex.refl H4) _ fun p H5 hp5 e5 h5 => ?_
      obtain ⟨v, hv, hdv⟩ := dpall_get (i := i) (d := e3 ts[i]) hdt (by rw [List.getElem?_map, ht]; rfl)
      obtain ⟨c, rfl, hc⟩ := dp_3 hdv
      rw [cut_nat] at h5
      refine ⟨_, rfl, _, rfl, _, rfl, a, xt, (i : Int), .ref c, rfl, rfl, ex_l e5 hxt, atI_nat hv, ?_⟩
      refine ⟨p, bl, c, ts.take i, (pgs.take (i + 1)).flatten, ts[i], rfl, ⟨_, sq_of h5, ?_⟩, ?_, ⟨_, sq_of (e5 _ _ (e4 _ _ hb3)), dps_tk ((TK.of e4).trans (TK.of e5)) _ _ (eB_tup _) hd3⟩, ?_, ex_t e5 hc, fun H6 e6 => ⟨_, rfl, q H6 (e5.trans e6)⟩⟩
      · rw [List.map_take]
        exact dps_tk (TK.of e5) _ _ (by rw [← List.map_take]; exact e3_tup _) (dpall_take _ hdt)
      · rw [List.length_take]; omega
      · rw [hfl, List.length_append]; omega
    · have hm' : BP.mayCome (ts.take i) (pgs.take (i + 1)).flatten ts[i] = false := by simpa using hm
      rw [hsf, hm', if_neg Bool.false_ne_true] at q
      exact q H5 ((E2.trans e4).trans e5)
    · have hm' : BP.mayCome (ts.take i) (pgs.take (i + 1)).flatten ts[i] = true := by simpa using hm
      refine ⟨some (vN i), rfl, E2.trans e4, xs ++ ys, e4 _ _ hb3, dps_tk (TK.of e4) _ _ (eB_tup _) hd3, ?_⟩
      rw [hsf, if_pos hm']
  · obtain ⟨v, rfl, e', xs, hx, hxs, hs⟩ := hp
    rw [Int.toNat_natCast, Nat.sub_self] at hs
    rw [hs] at q
    exact s_ret ev_c fun H2 e2 => q H2 (e'.trans e2)
theorem ev_int1 {σ : L2.St} {H : Hp} {ta : TE} {b : Bool} (h : Ev ta σ H (.bl b)) : Ev (tCB (fun xs H Q => (∃ i, xs = [.int i] ∧ Q (.int i) H) ∨ ∃ k, xs = [.bl k] ∧ Q (.int (if k then 1 else 0)) H) (tCons ta tNil)) σ H (.int (if b = true then 1 else 0)) := fun H1 e Q q =>
  h H1 e _ fun H2 e2 => .inr ⟨b, rfl, q H2 e2⟩
theorem ok_sound {f : Addr} {fd : FuncData} (T : Txt K mg) (F : FunD K "sound" "sound" (defArgs s_sound) (defBody s_sound) (defScope s_sound) [] [] f fd) : FnOk P w K mg base CX0 6 f fd ["h", "sizes", "bids"] (spSound K) := by
  refine fno_of F sc_sound (by rintro vs H Q E ⟨a, b, c, h, s, l, rfl, _⟩; rfl) fun cdv A outer s H vs Q E hr h => ⟨_, (pss_cons (ps_if (pt_not (pt_val (pe_cd (ok_is_book T) (hr.mono (by decide)) (pa_cons (pv 0) (pa_cons (pv 1) (pa_cons (pv 2) pa_nil)))))) (pss_one (ps_ret (pe_lst (pa_cons (pe_gi (by rfl) T.c_NOT_AS_TOLD) pa_nil)))) pss_nil) (pss_one (ps_ret (pe_lst (pa_cons (pe_callTy call_int1 (by rfl) T.f_int (by decide +kernel) (pa_cons (pe_cd (ok_is_sound T) (hr.mono (by decide)) (pa_cons (pe_cd (ok_threes_of T) (hr.mono (by decide)) (pa_cons (pv 0) pa_nil)) (pa_cons (pe_cd (ok_pages_of T) (hr.mono (by decide)) (pa_cons (pv 1) (pa_cons (pv 2) pa_nil))) pa_nil))) pa_nil)) pa_nil))))), ?_⟩
  obtain ⟨a, b, c, h, sz, l, rfl, ha, hb, hc, h1, h2, h3, q⟩ := h
  refine q_when (b := !BP.isBook h sz l) (et_not (et_B (ev_cd (ea_cons (ev_var rfl) (ea_cons (ev_var rfl) (ea_cons (ev_var rfl) ea_nil))) fun H2 e2 Q q => ⟨a, b, c, h, sz, l, rfl, ex_l e2 ha, ex_l e2 hb, ex_l e2 hc, by omega, by omega, by omega, q⟩)))
    (fun hb H1 e1 => s_retL (el_lst (vs := [.int (-22)]) (ea_cons ev_c ea_nil) (by decide)) fun p H2 hp e2 h2 => ?_) (fun hn H1 e1 => ?_)
  · have e0 : BP.soundAns h sz l = [-22] := if_neg (by simpa using hb)
    rw [e0] at q
    exact q p H2 (fresh_back e1 hp) (e1.trans e2) h2
  have hk : BP.isBook h sz l = true := by simpa using hn
  have e0 : BP.soundAns h sz l = [if BP.isSound (BP.threes h) (BP.pagesOf sz (BP.fours l)) = true then 1 else 0] := if_pos hk
  rw [e0] at q
  have B := BP.isB hk
  have l3 : (BP.threes h).length = h.length / 3 := BP.threes_len h B.h3
  have l4 : (BP.fours l).length = l.length / 4 := BP.fours_len l B.b4
  have hfl := BP.pagesOf_all sz (BP.fours l) B.sum
  refine s_retL (xs := [.int (if BP.isSound (BP.threes h) (BP.pagesOf sz (BP.fours l)) = true then 1 else 0)]) (el_lst (ea_cons (ev_int1 ?_) ea_nil) (by show 1 ≤ 100000; decide)) fun p H2 hp e2 h2 => q p H2 (fresh_back e1 hp) (e1.trans e2) h2
  intro H2 e2 Q q
  refine (edl_cd (K := K) (ds := (BP.threes h).map e3) (ea_cons (ev_var rfl) ea_nil) fun H3 e3' Q q => ⟨a, h, rfl, ex_l e3' (ex_l (e1.trans e2) ha), B.h3, by omega, q⟩ : EvDL K _ _ H2 _) H2 (Ex.refl H2) _ fun pt xt H3 n3 e3' ht hdt => ?_
  refine ⟨_, rfl, _, rfl, ?_⟩
  refine ⟨b, c, sz, l, rfl, ex_l ((e1.trans e2).trans e3') hb, ex_l ((e1.trans e2).trans e3') hc, B.b4, by omega, by omega, by rw [B.sum]; omega, fun pp H4 n4 e4 hpg => ?_⟩
  exact ⟨pt, pp, BP.threes h, BP.pagesOf sz (BP.fours l), rfl, LD.ex ⟨xt, sq_of ht, hdt⟩ (e3_tup _) e4, hpg, by omega, by rw [BP.pagesOf_len, B.sl, l3], by rw [hfl]; omega, fun H5 e5 => q H5 ((e3'.trans e4).trans e5)⟩
end
end BA
/-! ## the row -/
namespace BA
open PySem PySem.Spec PyProof.Rows L2 Evl
open PySem.W (Codec)
abbrev R : PySem.W.OpenSpec := PySem.Challenge.rw_bookagain_s06_sound
abbrev hk : PySem.W.Hook := He.hookD 4 fa fn
def ob (s : PySem.W.SharedT) : He.AlD := He.obsDG 4 fa fn (HandSHeadRun.getT s)
theorem ob_eq (s : PySem.W.SharedT) : ob s = hk.obs s.abs := He.obsDG_eq (HandSHeadRun.getT_eq s)
def loose : List Str := (["DONE", "WENT_WRONG", "NEVER_DONE", "FIRED", "WORD", "ERRAND_OFF", "ASK", "TIMER", "STOP", "STEP_OFF", "ENDED", "MOST_HAPPENINGS", "KINDS_OF_WORDS", "is_three", "threes_of", "fours_of", "are_happenings", "are_bids", "is_book", "pages_of", "is_of_kind", "is_bidden_of", "is_happening_of", "is_open", "is_step_off", "is_timer", "is_over", "may_come", "is_sound", "NOT_AS_TOLD"] : List Str)
theorem run (w : World) : HandSHeadRun.RunEqS R (PySem.W.view R.prog [32]) hk ob 3000 loose w := by
  intro os
  kernel_rfl
end BA
namespace BA
open PySem PySem.Spec PyProof.Rows L2 Evl
open PySem.W (Codec)
/-- what the codecs tell of a list of numbers -/
theorem dw_list {K : PySem.W.Frag} {H : Hp} {v : V} {least most : Nat} {hi : Int} {l : List Int} (h : Dw K H v (Codec.enc (.list least most (.int 0 hi)) l)) (hw : Codec.within (.list least most (.int 0 hi)) l = true) :
    ∃ a, v = .ref a ∧ SqL K H a ((l.map Int.toNat).map vN) ∧ l.length ≤ most := by
  have q : (Codec.inLen least most l && l.all (Codec.inInt 0 hi)) = true := hw
  rw [Bool.and_eq_true] at q
  cases h with
  | lst hs ha =>
    have e := ints_dw l _ ha
    subst e
    rw [nats_of q.2] at hs
    exact ⟨_, rfl, hs, (Codec.inNat_iff.mp q.1).2⟩
theorem dw_out {K : PySem.W.Frag} {H : Hp} {p : Addr} {l : List Int} (h : H p = some (.lst (l.map V.int))) : Dw K H (.ref p) (.list (l.map PySem.W.WData.int)) := .lst (SqL.of h) (dw_ints _)
end BA
open PySem PySem.W PySem.Calls PyProof.Rows
set_option maxHeartbeats 0 in
theorem PySem.Challenge.cw_bookagain_s06_sound_holds : PySem.Challenge.rw_bookagain_s06_sound.Holds := by
  have said : PySem.Challenge.rw_bookagain_s06_sound.wellSaid = true := by decide +kernel
  w_on
  refine HandSHeadRun.head_spec (r := PySem.Challenge.rw_bookagain_s06_sound) (q := view (PySem.Challenge.rw_bookagain_s06_sound).prog [32]) (H := BA.hk) (ob := BA.ob) (M := 3000) (loose := BA.loose) (d := HandSHeadRun.topDef (PySem.Challenge.rw_bookagain_s06_sound).prog 32) (kwd := []) BA.ob_eq
    (by kernel_rfl) (fun s => by kernel_rfl) BA.run (by kernel_rfl) (by kernel_rfl) (by rfl) os_shapes said (by decide +kernel) ⟨rfl, rfl, rfl, rfl, rfl, by decide +kernel⟩ ?hw ?hc
  case hw => exact ⟨[.list [], .list [], .list []], by decide +kernel, by decide +kernel⟩
  case hc =>
    refine BA.walk_specE (r := PySem.Challenge.rw_bookagain_s06_sound) (k := 6) (ps := ["h", "sizes", "bids"]) said (by kernel_rfl) rfl ⟨rfl, by decide, by decide⟩ ?F
    intro w mg fa h Y G hmg0
    obtain ⟨K, KX, c⟩ := Y
    have hmg : mg ("sound" : PySem.Str) = some (.ref fa) := by
      have e : (HandSHeadRun.topDef (PySem.Challenge.rw_bookagain_s06_sound).prog 32).name = ("sound" : PySem.Str) := by kernel_rfl
      rw [← e]
      exact hmg0
    have T : BA.Txt K mg := ⟨h, KX, G, c⟩
    obtain ⟨fd, F⟩ := BA.Txt.d_sound T
    have eg := hmg.symm.trans (BA.Txt.g_sound T)
    cases eg
    refine ⟨K, fd, BA.spSound K, KX, F.bindsA (ps := ["h", "sizes", "bids"]) (fun _ _ _ _ _ _ us hl => match us, hl with | [_, _, _], _ => rfl), fun H xs a hO hwi hask hx => ?_, fun base _ _ => ?_⟩
    · cases hx with
      | cons h1 h2 => cases h2 with
        | cons h2 h3 => cases h3 with
          | cons h3 h4 =>
            cases h4
            have q : (Codec.within _ a.1 && (Codec.within _ a.2.1 && (Codec.within _ a.2.2.1 && true))) = true := hwi
            rw [Bool.and_eq_true, Bool.and_eq_true, Bool.and_eq_true] at q
            obtain ⟨a1, rfl, s1, l1⟩ := BA.dw_list h1 q.1
            obtain ⟨a2, rfl, s2, l2⟩ := BA.dw_list h2 q.2.1
            obtain ⟨a3, rfl, s3, l3⟩ := BA.dw_list h3 q.2.2.1
            refine ⟨a1, a2, a3, _, _, _, rfl, s1, s2, s3, by rw [List.length_map]; exact l1, by rw [List.length_map]; exact l2, by rw [List.length_map]; exact l3, fun p H2 hp e2 hH => ?_⟩
            have e : (PySem.Challenge.rw_bookagain_s06_sound).ret.enc (Codec.app (PySem.Challenge.rw_bookagain_s06_sound).args (PySem.Challenge.rw_bookagain_s06_sound).f a) = .list ((PyKs482.sound a.1 a.2.1 a.2.2.1).map WData.int) := rfl
            rw [e, BP.sound_is]
            exact BA.dw_out hH
    · exact BA.ok_sound T F
#print axioms PySem.Challenge.cw_bookagain_s06_sound_holds
