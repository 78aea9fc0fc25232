import PyProof.Rows.All
import Wide.All
import OpenK.AllK
import Wide.FinOn
import HandS.ForMost
import HandS.Flow
import HandS.IsInst
import HandS.Defaults
import HandS.Walk
import HandS.More
import HandS.TupAny
import HandS.SortRule
import HandS.TupMul
import HandS.DictComp
import HandS.DeepEq
import KE.DataMinMax
import KE.SortData
import HandS.HeadHook1
import HandS.ForExc
import HandS.ExcIs
import HandS.Comp
import HandS.Iter
import HandS.HeadHook3
import HandS.HeadHook4
import HandS.CallSlots
import HandS.SetFor
import KE.KStateDown
import HandS.Ends
import HandS.Words
import HandS.WordsExc
import HandS.Head0
import HandS.Head1
import HandS.Head2
import HandS.HeadEnd
import HandS.HeadHook2
import HandS.TupLe
import HandS.Text
import HandS.FStr
import PySem.Challenge.RW_oatroads_k11_whole_texts
set_option Elab.async false
set_option linter.all false
set_option maxRecDepth 100000
set_option maxHeartbeats 0
namespace Oa
open PySem PySem.Spec PyProof.Rows L2

/-! ### defs of the top, and calls of them -/
section
variable (P : Program) (w : World) (K : PySem.W.Frag) (mg : Str → Option Value) (base : Heap)
/-- a def of the top as it stands -/
def Dfn (x : Str) (st : Stmt) (kws : List (Str × V)) : Prop := ∃ f fd, mg x = some (.ref f) ∧ FunD K x x (defArgs st) (defBody st) (defScope st) [] kws f fd
/-- it can be called by positions, and keeps its promise -/
def Cal (CX : CXT) (k : Nat) (x : Str) (ps : List Str) (sp : Sp) : Prop :=
  ∃ f fd, mg x = some (.ref f) ∧ PySem.W.keepIn K (.ref f) = true ∧ Binds K fd ps [] ∧ FnOk P w K mg base CX k f fd ps sp
end
section
variable {P : Program} {w : World} {K : PySem.W.Frag} {mg : Str → Option Value} {base : Heap}
theorem Cal.mono {CX : CXT} {j k : Nat} {x : Str} {ps : List Str} {sp : Sp} (c : Cal P w K mg base CX j x ps sp) (h : j ≤ k) : Cal P w K mg base CX k x ps sp := by
  obtain ⟨f, fd, g, kp, b, F⟩ := c
  exact ⟨f, fd, g, kp, b, F.mono h⟩
theorem Cal.imp {CX : CXT} {k : Nat} {x : Str} {ps : List Str} {sp sp' : Sp} (c : Cal P w K mg base CX k x ps sp) (h : ∀ vs H Q E, sp' vs H Q E → sp vs H Q E) : Cal P w K mg base CX k x ps sp' := by
  obtain ⟨f, fd, g, kp, b, F⟩ := c
  exact ⟨f, fd, g, kp, b, F.imp h⟩
/-- the body of a def that lets nothing out -/
theorem cal0 {x : Str} {st : Stmt} {N ps : List Str} {k : Nat} {sp : Sp} (D : Dfn K mg x st []) (S : FnScope N ps (defScope st))
    (bnd : ∀ (kV doc pm : Value) (an : Option Addr) (cdv ct : Value) (us : List Value), us.length = ps.length → bindArgs (PySem.W.fnOf x x (defArgs st) (defBody st) (defScope st) .none kV doc pm an cdv ct) ⟨us, []⟩ = pure (ps.zip us))
    (len : ∀ vs H Q E, sp vs H Q E → vs.length = ps.length)
    (hbody : ∀ (f : Addr) (cdv : Value) (A : Around) (outer : List Env) (s : Shared) (H : Hp) (vs : List V) (Q : VK) (E : XK), Room k (A.deeper (envOfC x (defScope st) s.heap.objs.size f cdv)) → sp vs H Q E →
      ∃ t, PSs (cxOf CX0 P w K mg base N x (defScope st) f cdv A outer s H E).nox (defBody st) t ∧ t { nx := fun _ H' => Q .non H', rt := Q } (start N vs) H) : Cal P w K mg base CX0 (k + 1) x ps sp := by
  obtain ⟨f, fd, g, F⟩ := D
  refine ⟨f, fd, g, F.kp, F.bindsN bnd, F.ok S len fun cdv A outer s H vs Q E hr h => ?_⟩
  obtain ⟨t, h1, h2⟩ := hbody f cdv A outer s H vs Q E hr h
  exact ⟨t, h1.nox, h2⟩
theorem none_left {CX : CXT} {x : Str} {st : Stmt} {ps : List Str} {sp : Sp} (D : Dfn K mg x st [])
    (bnd : ∀ (kV doc pm : Value) (an : Option Addr) (cdv ct : Value) (us : List Value), us.length = ps.length → bindArgs (PySem.W.fnOf x x (defArgs st) (defBody st) (defScope st) .none kV doc pm an cdv ct) ⟨us, []⟩ = pure (ps.zip us))
    (no : ∀ vs H Q E, ¬ sp vs H Q E) : Cal P w K mg base CX 0 x ps sp := by
  obtain ⟨f, fd, g, F⟩ := D
  exact ⟨f, fd, g, F.kp, F.bindsN bnd, ⟨fun vs H Q E h => absurd h (no vs H Q E), fun A outer s H args us vs Q E _ _ _ _ h => absurd h (no vs H Q E)⟩⟩
end
section
variable {X : Cx} {k : Nat} {x : Str} {ps : List Str} {sp : Sp} {e : Expr} {es : List Expr} {t : TA} {p pos : Pos}
/-- f(e, ..), f lets nothing out -/
theorem pcall (c : Cal X.prog X.w X.K X.mg X.base CX0 k x ps sp) (hr : Room k X.A) (ha : PA X (e :: es) t) (hg : Gl X x := by rfl)
    (hdb : (x == ("__debug__" : Str)) = false := by decide) (he : starEach (e :: es) X.env = (false, eval e X.env) :: starEach es X.env := by rfl) (hpl : (backTo pos (starEach es X.env)).any (·.1) = false := by rfl) :
    PE X (.Call (.Name x p) (e :: es) [] pos) (tCall sp [] E0 t) := by
  obtain ⟨f, fd, g, kp, b, F⟩ := c
  exact pe_call F hr hg g kp b .nil pass0 ha hdb he hpl
end

/-! ### defs with one keyword-only parameter that has a default -/
section
variable (P : Program) (w : World) (K : PySem.W.Frag) (mg : Str → Option Value) (base : Heap)
/-- it can be called with the keyword kw, or without it; n values by position -/
def CalK (CX : CXT) (k : Nat) (x : Str) (ps : List Str) (n : Nat) (kw : Str) (dv : V) (sp : Sp) : Prop :=
  ∃ f fd, mg x = some (.ref f) ∧ PySem.W.keepIn K (.ref f) = true ∧ KBn K fd ps n [kw] (fun us ws => us ++ ws) (fun vs zs => vs ++ zs) ∧ (∃ ds, Vals [dv] ds ∧ Binds K fd ps ds) ∧ FnOk P w K mg base CX k f fd ps sp
end
section
variable {P : Program} {w : World} {K : PySem.W.Frag} {mg : Str → Option Value} {base : Heap}
theorem calK {CX : CXT} {x kw : Str} {dv : V} {st : Stmt} {N ps : List Str} {k n : Nat} {sp : Sp} (D : Dfn K mg x st [(kw, dv)]) (S : FnScope N ps (defScope st)) (hn : n + 1 = ps.length)
    (bk : ∀ (D : Addr) (doc pm : Value) (an : Option Addr) (cdv ct : Value) (us ws : List Value), us.length = n → ws.length = 1 → bindArgs (PySem.W.fnOf x x (defArgs st) (defBody st) (defScope st) .none (.ref D) doc pm an cdv ct) ⟨us, [kw].zip ws⟩ = pure (ps.zip (us ++ ws)))
    (bd : ∀ (D : Addr) (doc pm : Value) (an : Option Addr) (cdv ct : Value) (us ks : List Value), us.length = n → ks.length = 1 → KwChain D ([kw].zip ks) (bindArgs (PySem.W.fnOf x x (defArgs st) (defBody st) (defScope st) .none (.ref D) doc pm an cdv ct) ⟨us, []⟩) (ps.zip (us ++ ks)))
    (len : ∀ vs H Q E, sp vs H Q E → vs.length = ps.length)
    (hbody : ∀ (f : Addr) (cdv : Value) (A : Around) (outer : List Env) (s : Shared) (H : Hp) (vs : List V) (Q : VK) (E : XK), Room k (A.deeper (envOfC x (defScope st) s.heap.objs.size f cdv)) → sp vs H Q E →
      ∃ t, PSs (cxOf CX P w K mg base N x (defScope st) f cdv A outer s H E) (defBody st) t ∧ t { nx := fun _ H' => Q .non H', rt := Q } (start N vs) H) : CalK P w K mg base CX (k + 1) x ps n kw dv sp := by
  obtain ⟨f, fd, g, F⟩ := D
  refine ⟨f, fd, g, F.kp, ?_, ?_, F.ok S len fun cdv A outer s H vs Q E hr h => hbody f cdv A outer s H vs Q E hr h⟩
  · obtain ⟨oc, od, dV, kV, doc, pm, an, cdv, ct, osl, rfl, lk, hcd, hD, hK⟩ := F.ex
    rcases hD with ⟨_, rfl⟩ | ⟨e, _⟩
    · rcases hK with e | ⟨D, rfl, hq⟩
      · cases e
      · exact ⟨fun s us ws _ l1 l2 => .of_eq (bk D doc pm an cdv ct us ws l1 l2), fun r1 r2 => r1.append r2⟩
    · exact absurd rfl e
  · exact F.binds0 n (fun e => by cases e) hn (fun D doc pm an cdv ct us ks l1 l2 => bd D doc pm an cdv ct us ks l1 l2)
end
section
variable {X : Cx} {CX : CXT} {k n : Nat} {x kw : Str} {dv : V} {ps : List Str} {sp : Sp} {e ek : Expr} {es : List Expr} {t : TA} {te : TE} {p pos kpos : Pos} {E : XK}
/-- f(e, .., kw = v) -/
theorem pcallK (c : CalK X.prog X.w X.K X.mg X.base CX k x ps n kw dv sp) (hr : Room k X.A) (hx : Passes CX X E) (ha : PA X (e :: es) t) (hk : PE X ek te) (hg : Gl X x := by rfl) 
    (hall : (backToKw pos (keywordEach [⟨some kw, ek, kpos⟩] X.env)).all (·.1.isSome) = true := by rfl) (hks : (backToKw pos (keywordEach [⟨some kw, ek, kpos⟩] X.env)).filterMap (·.1) = [kw] := by rfl)
    (hdb : (x == ("__debug__" : Str)) = false := by decide) (he : starEach (e :: es) X.env = (false, eval e X.env) :: starEach es X.env := by rfl)
    (hpl : ((backTo pos (starEach (e :: es) X.env)).any (·.1) || (backToKw pos (keywordEach [⟨some kw, ek, kpos⟩] X.env)).any (·.1.isNone)) = false := by rfl) :
    PE X (.Call (.Name x p) (e :: es) [⟨some kw, ek, kpos⟩] pos) (tCallN n 1 sp (fun vs zs => vs ++ zs) E t (tCons te tNil)) := by
  obtain ⟨f, fd, g, kp, b, _, F⟩ := c
  exact pe_callN F hr hg g kp b hx ha (pk_cons hk pk_nil) hall hks hdb he hpl
/-- f(e, ..), kw left out -/
theorem pcallD (c : CalK X.prog X.w X.K X.mg X.base CX k x ps n kw dv sp) (hr : Room k X.A) (hx : Passes CX X E) (ha : PA X (e :: es) t) (hg : Gl X x := by rfl)
    (hdb : (x == ("__debug__" : Str)) = false := by decide) (he : starEach (e :: es) X.env = (false, eval e X.env) :: starEach es X.env := by rfl) (hpl : (backTo pos (starEach es X.env)).any (·.1) = false := by rfl) :
    PE X (.Call (.Name x p) (e :: es) [] pos) (tCall sp [dv] E t) := by
  obtain ⟨f, fd, g, kp, _, ⟨ds, hv, b⟩, F⟩ := c
  exact pe_call F hr hg g kp b hv hx ha hdb he hpl
end

/-! ### heaps -/
theorem same_new {H : Hp} {p : Addr} {o : HO} (h : H p = none) : Same H (upd H p o) := fun b x e => by
  rw [upd_ne (ne_of_none e h)]
  exact e
/-- an object that H does not know may change -/
theorem same_mut {H H' : Hp} {p : Addr} {o : HO} (e : Same H H') (h : H p = none) : Same H (upd H' p o) := fun a u ha => by
  rw [upd_ne (ne_of_none ha h)]
  exact e a u ha
/-- for readers: what is there to be read, locked or not -/
def NFz (u : HO) : Prop := ∀ o v, u ≠ .frz o v
theorem nf_t {xs : List V} : NFz (.tup xs) := fun _ _ e => nomatch e
theorem nf_l {xs : List V} : NFz (.lst xs) := fun _ _ e => nomatch e
theorem nf_d {xs : List (Key × V)} : NFz (.dK xs) := fun _ _ e => nomatch e
def Ext (H H' : Hp) : Prop := ∀ a u, NFz u → Rd H a u → Rd H' a u
theorem Ext.refl (H : Hp) : Ext H H := fun _ _ _ h => h
theorem Ext.trans {H H1 H2 : Hp} (a : Ext H H1) (b : Ext H1 H2) : Ext H H2 := fun c o n h => b c o n (a c o n h)
theorem ext_of {H H' : Hp} (e : Same H H') : Ext H H' := fun a u _ h => by
  rcases h with h | ⟨o, h⟩
  · exact .inl (e _ _ h)
  · exact .inr ⟨o, e _ _ h⟩
theorem Ext.l {K : PySem.W.Frag} {H H' : Hp} {a : Addr} {xs : List V} (e : Ext H H') (h : SqL K H a xs) : SqL K H' a xs := by
  rcases h with h | h
  · exact .inl (e _ _ nf_l h)
  · exact .inr h
theorem Ext.t {K : PySem.W.Frag} {H H' : Hp} {a : Addr} {xs : List V} (e : Ext H H') (h : SqT K H a xs) : SqT K H' a xs := by
  rcases h with h | h
  · exact .inl (e _ _ nf_t h)
  · exact .inr h
theorem Ext.d {H H' : Hp} {a : Addr} {xs : List (Key × V)} (e : Ext H H') (h : Rd H a (.dK xs)) : Rd H' a (.dK xs) := e _ _ nf_d h
theorem same_t {K : PySem.W.Frag} {H H' : Hp} {a : Addr} {xs : List V} (e : Same H H') (h : SqT K H a xs) : SqT K H' a xs := (ext_of e).t h
theorem same_l {K : PySem.W.Frag} {H H' : Hp} {a : Addr} {xs : List V} (e : Same H H') (h : SqL K H a xs) : SqL K H' a xs := (ext_of e).l h
theorem sqt {K : PySem.W.Frag} {H : Hp} {a : Addr} {xs : List V} (h : H a = some (.tup xs)) : SqT K H a xs := .inl (.inl h)
theorem sql {K : PySem.W.Frag} {H : Hp} {a : Addr} {xs : List V} (h : H a = some (.lst xs)) : SqL K H a xs := .inl (.inl h)
/-- locks -/
theorem lock_ext {H : Hp} {d : Addr} {u : HO} {od : Obj} (hd : H d = some u) (nf : NFz u) : Ext H (upd H d (.frz od u)) := fun a v _ h => by
  by_cases e : a = d
  · subst e
    rcases h with h | ⟨o, h⟩
    · rw [hd] at h
      cases h
      exact .inr ⟨od, upd_same⟩
    · rw [hd] at h
      cases h
      exact absurd rfl (nf _ _)
  · rcases h with h | ⟨o, h⟩
    · exact .inl (by rw [upd_ne e]; exact h)
    · exact .inr ⟨o, by rw [upd_ne e]; exact h⟩
theorem unlock_ext {H : Hp} {d : Addr} {u : HO} {od : Obj} (hd : H d = some (.frz od u)) : Ext H (upd H d u) := fun a v n h => by
  by_cases e : a = d
  · subst e
    rcases h with h | ⟨o, h⟩
    · rw [hd] at h
      cases h
      exact absurd rfl (n _ _)
    · rw [hd] at h
      cases h
      exact .inl upd_same
  · rcases h with h | ⟨o, h⟩
    · exact .inl (by rw [upd_ne e]; exact h)
    · exact .inr ⟨o, by rw [upd_ne e]; exact h⟩
theorem lock_same {H H' : Hp} {d : Addr} {u : HO} {od : Obj} (hd : H d = some u) (s : Same (upd H d (.frz od u)) H') : Same H (upd H' d u) := fun a v h => by
  by_cases e : a = d
  · subst e
    rw [hd] at h
    cases h
    exact upd_same
  · rw [upd_ne e]
    exact s a v (by rw [upd_ne e]; exact h)

/-! ### comprehensions: which turns give, and what is true of what they give -/
def SameBut (D : Addr) (H H' : Hp) : Prop := ∀ b o, b ≠ D → H b = some o → H' b = some o
theorem same_but {D : Addr} {H H' : Hp} (s : Same H H') : SameBut D H H' := fun b o _ e => s b o e
theorem paired_snoc {α β : Type} {R : α → β → Prop} : ∀ {xs : List α} {ys : List β} {x : α} {y : β}, Paired R xs ys → R x y → Paired R (xs ++ [x]) (ys ++ [y])
  | _, _, _, _, .nil, h => .cons h .nil
  | _, _, _, _, .cons a b, h => .cons a (paired_snoc b h)
theorem paired_imp {α β : Type} {R S : α → β → Prop} : ∀ {xs : List α} {ys : List β}, Paired R xs ys → (∀ x y, R x y → S x y) → Paired S xs ys
  | _, _, .nil, _ => .nil
  | _, _, .cons a b, h => .cons (h _ _ a) (paired_imp b h)
theorem lc_rel {J : It} {n : Nat} {G : Hp → Prop} {Y : Nat → Hp → V → Hp → Prop} (w : Walk J n G Y) {tt : TT} {te : TE} {vs : List Nat} {σ : L2.St} {j : Nat} {H1 : Hp} {D : Addr} {Qd : Hp → Prop} (hD : H1 D = none) (hn : n ≤ 1000)
    (hG : ∀ H, Same H1 H → G H) (f : Nat → Bool) (R : Nat → V → Hp → Prop) (mono : ∀ i v H H' l, H D = some (.lst l) → SameBut D H H' → R i v H → R i v H')
    (step : ∀ i x H2 H3 l, i < n → Same H1 H2 → H2 D = some (.lst l) → Y i H2 x H3 → Same H2 H3 ∧ wipe ((wipe σ vs).set j (some x)) vs = wipe σ vs ∧
      (∀ Q : Bool → Hp → Prop, (∀ H4, Same H3 H4 → Q (f i) H4) → tt ((wipe σ vs).set j (some x)) H3 Q) ∧
      (f i = true → ∀ H4, Same H3 H4 → ∀ Q : VK, (∀ v H5, Same H4 H5 → R i v H5 → Q v H5) → te ((wipe σ vs).set j (some x)) H4 Q))
    (q : ∀ ys H2, Same H1 H2 → H2 D = some (.lst ys) → Paired (fun i v => R i v H2) ((List.range n).filter f) ys → Qd H2) :
    ∃ W : Nat → Nat → Hp → Prop, (∃ m, W 0 m (upd H1 D (.lst []))) ∧ ∀ i m H, W i m H →
      (J.stop i H ∧ Qd H) ∨ (J.go i H ∧ ∃ Nx : Hp → Prop, (∀ H', Nx H' → ∃ m', m' < m ∧ W (i + 1) m' H') ∧ ∀ x H', J.yld i H x H' → gName j x (wipe σ vs) H' fun σ2 H2 => wipe σ2 vs = wipe σ vs ∧ tt σ2 H2 fun b H3 =>
        if b = true then te σ2 H3 fun y H4 => ∃ acc, H4 D = some (.lst acc) ∧ acc.length < sizeLine ∧ Nx (upd H4 D (.lst (acc ++ [y]))) else Nx H3) := by
  refine lc_it w (g := gName j) (Qd := Qd) (fun i H => Same H1 H ∧ ∃ ys, H D = some (.lst ys) ∧ ys.length ≤ i ∧ Paired (fun i v => R i v H) ((List.range i).filter f) ys)
    ⟨same_new hD, [], upd_same, Nat.le_refl _, .nil⟩ (fun i H _ p => hG H p.1) (fun i x H2 H3 hi p y => ?_) (fun H p => ?_)
  · obtain ⟨s1, ys, hy, hl, hp⟩ := p
    obtain ⟨s2, e, h1, h2⟩ := step i x H2 H3 ys hi s1 hy y
    refine ⟨e, h1 _ fun H4 s3 => ?_⟩
    have hy4 : H4 D = some (.lst ys) := s3 _ _ (s2 _ _ hy)
    cases hf : f i with
    | true =>
      show te _ H4 _
      refine h2 hf H4 s3 _ fun v H5 s4 r => ?_
      have hy5 : H5 D = some (.lst ys) := s4 _ _ hy4
      have ss : Same H2 H5 := s2.trans (s3.trans s4)
      have sb : SameBut D H5 (upd H5 D (.lst (ys ++ [v]))) := fun b o hb eb => by rw [upd_ne hb]; exact eb
      refine ⟨ys, hy5, Nat.lt_of_lt_of_le (show ys.length < 1001 by omega) (by decide), same_mut (s1.trans ss) hD, ys ++ [v], upd_same, by simp; omega, ?_⟩
      rw [List.range_succ, List.filter_append, show [i].filter f = [i] by simp [hf]]
      exact paired_snoc (paired_imp hp fun k u z => mono k u _ _ _ hy5 sb (mono k u _ _ _ hy (same_but ss) z)) (mono i v _ _ _ hy5 sb r)
    | false =>
      show Same H1 H4 ∧ _
      refine ⟨s1.trans (s2.trans s3), ys, hy4, by omega, ?_⟩
      rw [List.range_succ, List.filter_append, show [i].filter f = [] by simp [hf], List.append_nil]
      exact paired_imp hp fun k u z => mono k u _ _ _ hy (same_but (s2.trans s3)) z
  · obtain ⟨s1, ys, hy, _, hp⟩ := p
    exact q ys H s1 hy hp

/-! ### rules with the written part told -/
section
variable {X : Cx}
theorem ixT (K : PySem.W.Frag) (h : X.K = K := by rfl) : IxR X (rIxT K) := by subst h; exact ix_tup
theorem ixL (K : PySem.W.Frag) (h : X.K = K := by rfl) : IxR X (rIxL K) := by subst h; exact ix_list
theorem lenS (K : PySem.W.Frag) (h : X.K = K := by rfl) : CallR X (.builtin "len") (fun xs H Q => ∃ p ys, xs = [.ref p] ∧ (SqL K H p ys ∨ SqT K H p ys) ∧ Q (.int ys.length) H) := by subst h; exact call_len_seq
theorem isi (K : PySem.W.Frag) (h : X.K = K := by rfl) : CallR X (.builtin "isinstance") (rIsi K) := by subst h; exact call_isi
theorem allL (K : PySem.W.Frag) (hc : X.calm = true) (h : X.K = K := by rfl) : CallR X (.builtin "all") (rAll K) := by subst h; exact cr_all hc
theorem anyL (K : PySem.W.Frag) (hc : X.calm = true) (h : X.K = K := by rfl) : CallR X (.builtin "any") (rAny K) := by subst h; exact cr_any hc
theorem sumI (K : PySem.W.Frag) (hc : X.calm = true) (h : X.K = K := by rfl) : CallR X (.builtin "sum") (rSum K) := by subst h; exact cr_sum hc
theorem minI (K : PySem.W.Frag) (hc : X.calm = true) (h : X.K = K := by rfl) : CallR X (.builtin "min") (rMin K) := by subst h; exact cr_min hc
theorem maxI (K : PySem.W.Frag) (hc : X.calm = true) (h : X.K = K := by rfl) : CallR X (.builtin "max") (rMax K) := by subst h; exact cr_max hc
theorem srtPO (K : PySem.W.Frag) (h : X.K = K := by rfl) : CallR X (.builtin "sorted") (rSortedPO K) := by subst h; exact cr_sortedPO
theorem catA (K : PySem.W.Frag) (h : X.K = K := by rfl) : OpR X (binaryOp .Add) (rCatA K) := by subst h; exact op_catA
theorem slA (K : PySem.W.Frag) (h : X.K = K := by rfl) : SlR X (rSlA K) := by subst h; exact sl_tupA
theorem slL (K : PySem.W.Frag) (h : X.K = K := by rfl) : SlR X (rSlL K) := by subst h; exact sl_list
theorem repT (K : PySem.W.Frag) (h : X.K = K := by rfl) : OpR X (binaryOp .Mult) (rRepT K) := by subst h; exact op_repT
theorem inS (K : PySem.W.Frag) (h : X.K = K := by rfl) : OpR X (compareOp .In) (rIn K false) := by subst h; exact op_in_seq
theorem ninS (K : PySem.W.Frag) (h : X.K = K := by rfl) : OpR X (compareOp .NotIn) (rIn K true) := by subst h; exact op_notIn_seq
theorem eqDt (K : PySem.W.Frag) (hu : X.A.units + 64 < cLine) (h : X.K = K := by rfl) : OpR X (compareOp .Eq) (rEqD K) := by subst h; exact op_eqD hu
theorem neDt (K : PySem.W.Frag) (hu : X.A.units + 64 < cLine) (h : X.K = K := by rfl) : OpR X (compareOp .NotEq) (rNeD K) := by subst h; exact op_neD hu
theorem listOf (K : PySem.W.Frag) (h : X.K = K := by rfl) : CallR X (.type "list") (fun xs H Q => ∃ p ys, xs = [.ref p] ∧ (SqL K H p ys ∨ SqT K H p ys) ∧ ∀ l, H l = none → Q (.ref l) (upd H l (.lst ys))) := by subst h; exact call_list_of
theorem tupOf (K : PySem.W.Frag) (h : X.K = K := by rfl) : CallR X (.type "tuple") (fun xs H Q => ∃ p ys, xs = [.ref p] ∧ ((SqL K H p ys ∧ ∀ l, H l = none → Q (.ref l) (upd H l (.tup ys))) ∨ (SqT K H p ys ∧ Q (.ref p) H))) := by subst h; exact call_tuple_of
theorem piL (K : PySem.W.Frag) {tg l : Expr} {tl : TE} (hl : PE X l tl) (h : X.K = K := by rfl) : PI X tg l (iList K tl) := by subst h; exact pi_list hl
theorem piT (K : PySem.W.Frag) {tg l : Expr} {tl : TE} (hl : PE X l tl) (h : X.K = K := by rfl) : PI X tg l (iTup K tl) := by subst h; exact pi_tup hl
theorem peOrT (K : PySem.W.Frag) {a b : Expr} {rest : List Expr} {pos : Pos} {ta tb : TE} (ha : PE X a ta) (hb : PE X (.BoolOp .Or (b :: rest) pos) tb) (h : X.K = K := by rfl) : PE X (.BoolOp .Or (a :: b :: rest) pos) (tOrT K ta tb) := by subst h; exact pe_orT ha hb
end

/-! ### tests that leave the heap as it is -/
def T0 (t : TT) (σ : L2.St) (H : Hp) (b : Bool) : Prop := ∀ Q : Bool → Hp → Prop, Q b H → t σ H Q
section
variable {t u : TT} {σ : L2.St} {H : Hp} {a b : Bool} {tu tw : TS} {D : Ends} {ta tb : TE} {Q : VK}
theorem t0_and (h1 : T0 t σ H a) (h2 : a = true → T0 u σ H b) : T0 (tAnd t u) σ H (a && b) := fun Q q => h1 _ (by
  cases a with
  | true => exact h2 rfl Q q
  | false => exact q)
theorem t0_or (h1 : T0 t σ H a) (h2 : a = false → T0 u σ H b) : T0 (tOr t u) σ H (a || b) := fun Q q => h1 _ (by
  cases a with
  | true => exact q
  | false => exact h2 rfl Q q)
theorem t0_not (h : T0 t σ H a) : T0 (tNot t) σ H (!a) := fun Q q => h _ q
theorem t0_is (h : T0 t σ H a) (e : a = b) : T0 t σ H b := e ▸ h
theorem if0 (h : T0 t σ H b) (h1 : b = true → tu D σ H) (h2 : b = false → tw D σ H) : tIfS t tu tw D σ H := h _ (by
  cases b with
  | true => exact h1 rfl
  | false => exact h2 rfl)
theorem if0s {tr : TS} (h : T0 t σ H b) (h1 : b = true → tu { D with nx := tr D } σ H) (h2 : b = false → tw { D with nx := tr D } σ H) : tSeq (tIfS t tu tw) tr D σ H := if0 h h1 h2
theorem ifx0 (h : T0 t σ H b) (h1 : b = true → ta σ H Q) (h2 : b = false → tb σ H Q) : tIf t ta tb σ H Q := h _ (by
  cases b with
  | true => exact h1 rfl
  | false => exact h2 rfl)
end
end Oa
namespace Oat

/-! ### dicts with whole keys, as lists of pairs -/
def dput {α : Type} : List (Nat × α) → Nat → α → List (Nat × α)
  | [], k, v => [(k, v)]
  | (j, u) :: r, k, v => if j = k then (j, v) :: r else (j, u) :: dput r k v
def dget {α : Type} : List (Nat × α) → Nat → Option α
  | [], _ => none
  | (j, u) :: r, k => if j = k then some u else dget r k

/-! ### rows (sum, parting) and their order -/
def lexN : List Nat → List Nat → Bool
  | [], [] => false
  | [], _ :: _ => true
  | _ :: _, [] => false
  | x :: xs, y :: ys => if x = y then lexN xs ys else decide (x < y)
def rlt (a b : Int × List Nat) : Bool := if a.1 = b.1 then lexN a.2 b.2 else decide (a.1 < b.1)
def rmin (a b : Int × List Nat) : Int × List Nat := if rlt b a = true then b else a

abbrev Fnd := List (Nat × (Int × List Nat))
def addRow (left : Nat) (used : Nat) (u : Int × List Nat) (acc : Fnd) (s : Nat × Int) : Fnd :=
  if used + s.1 ≤ left then
    dput acc (used + s.1) (rmin ((dget acc (used + s.1)).getD (u.1 + s.2, u.2 ++ [s.1])) (u.1 + s.2, u.2 ++ [s.1]))
  else acc
def stepBest (left : Nat) (found : Fnd) (table : List (Nat × Int)) : Fnd :=
  found.foldl (fun acc e => table.foldl (addRow left e.1 e.2) acc) []
def bestF (ts : List (List (Nat × Int))) (left : Nat) : Fnd := ts.foldl (stepBest left) [(0, (0, []))]
def best (ts : List (List (Nat × Int))) (left : Nat) : Option (Int × List Nat) :=
  match bestF ts left with
  | [] => none
  | e :: r => some (r.foldl (fun m x => rmin m x.2) e.2)

/-! ### lands: L has the place ahead of each place but the base: of place i + 1 it is L[i] -/
def kids (L : List Nat) (p : Nat) : List Nat := ((List.range L.length).filter fun i => L.getD i 0 == p).map (· + 1)
def WfL (L : List Nat) : Prop := ∀ i, i < L.length → L.getD i 0 ≤ i

structure Case where
  L : List Nat
  room : Nat
  W : List (Option Nat)
  left : Nat

def wantN (W : List (Option Nat)) (p : Nat) : Int := match W.getD p none with
  | none => 0
  | some u => (u : Int)

def outF (room : Nat) (need : Int) (e : Nat) : Option Int :=
  if need ≤ (max e 1 : Nat) * ((room : Int) - 2) + e then some ((max e 1 : Nat) : Int)
  else if room = 2 then none else some (-(((e : Int) - need) / ((room : Int) - 2)))

def wantedF (L : List Nat) (W : List (Option Nat)) : Nat → Nat → Bool
  | 0, p => (W.getD p none).isSome
  | f + 1, p => (W.getD p none).isSome || (kids L p).any (wantedF L W f)
def wanted (L : List Nat) (W : List (Option Nat)) (p : Nat) : Bool := wantedF L W L.length p

structure TRow where
  tk : Int
  out : Int
  back : Int
  part : List Nat

/-- what is taken for a place, given its need and the parting -/
def takenOf (c : Case) (p : Nat) (n : Int × List Nat) (e : Nat) : Option TRow :=
  if p = 0 then some ⟨n.1, 0, 0, n.2⟩
  else if e = 0 ∧ wanted c.L c.W p = false then some ⟨0, 0, 0, n.2⟩
  else (outF c.room n.1 e).map fun o => ⟨n.1 + 2 * o - e, o, o - e, n.2⟩
def needOf (W : List (Option Nat)) (p : Nat) (ts : List (List (Nat × Int))) (left : Nat) : Option (Int × List Nat) := (best ts left).map fun e => (e.1 + wantN W p, e.2)
def rowOf (c : Case) (p : Nat) (ts : List (List (Nat × Int))) (e : Nat) : Option TRow := (needOf c.W p ts e).bind fun n => takenOf c p n e
abbrev Tab := List (Nat × TRow)
def tabOf (c : Case) (p : Nat) (ts : List (List (Nat × Int))) : Tab := (List.range (c.left + 1)).filterMap fun e => (rowOf c p ts e).map fun r => (e, r)
def takes (t : Tab) : List (Nat × Int) := t.map fun x => (x.1, x.2.tk)
def tabF (c : Case) : Nat → Nat → Tab
  | 0, _ => []
  | f + 1, p => tabOf c p ((kids c.L p).map fun k => takes (tabF c f k))
def tab (c : Case) (p : Nat) : Tab := tabF c (c.L.length + 1) p

/-! ### the least of a table -/
def plt (a b : Int × Nat) : Bool := if a.1 = b.1 then decide (a.2 < b.2) else decide (a.1 < b.1)
def pmin (a b : Int × Nat) : Int × Nat := if plt b a = true then b else a
def bestL (tb : List (Nat × Int)) : Option (Int × Nat) := match tb with
  | [] => none
  | x :: r => some (r.foldl (fun m y => pmin m (y.2, y.1)) (x.2, x.1))
def least (c : Case) : Option Int := (bestL (takes (tab c 0))).map (·.1)

/-! ### kids -/
theorem mem_kids {L : List Nat} {p k : Nat} : k ∈ kids L p ↔ ∃ i, i < L.length ∧ L.getD i 0 = p ∧ k = i + 1 := by
  unfold kids
  simp only [List.mem_map, List.mem_filter, List.mem_range, beq_iff_eq]
  constructor
  · rintro ⟨i, ⟨h1, h2⟩, rfl⟩; exact ⟨i, h1, h2, rfl⟩
  · rintro ⟨i, h1, h2, rfl⟩; exact ⟨i, ⟨h1, h2⟩, rfl⟩
theorem kids_gt {L : List Nat} (w : WfL L) {p k : Nat} (h : k ∈ kids L p) : p < k ∧ k ≤ L.length := by
  obtain ⟨i, h1, h2, rfl⟩ := mem_kids.mp h
  have := w i h1
  omega
theorem tabF_stable {c : Case} (w : WfL c.L) : ∀ (f g p : Nat), c.L.length + 1 ≤ f + p → c.L.length + 1 ≤ g + p → p ≤ c.L.length → tabF c f p = tabF c g p
  | 0, _, p, h, _, hp => by omega
  | f + 1, 0, p, _, h, hp => by omega
  | f + 1, g + 1, p, hf, hg, hp => by
    unfold tabF
    congr 1
    refine List.map_congr_left fun k hk => ?_
    have := kids_gt w hk
    rw [tabF_stable w f g k (by omega) (by omega) (by omega)]
theorem tab_eq {c : Case} (w : WfL c.L) {p : Nat} (hp : p ≤ c.L.length) : tab c p = tabOf c p ((kids c.L p).map fun k => takes (tab c k)) := by
  show tabOf c p _ = _
  congr 1
  refine List.map_congr_left fun k hk => ?_
  have := kids_gt w hk
  show takes (tabF c c.L.length k) = takes (tabF c (c.L.length + 1) k)
  rw [tabF_stable w c.L.length (c.L.length + 1) k (by omega) (by omega) (by omega)]
theorem tabF_tab {c : Case} (w : WfL c.L) {f p : Nat} (hp : p ≤ c.L.length) (hf : c.L.length + 1 ≤ f + p) : tabF c f p = tab c p :=
  tabF_stable w f _ p hf (by omega) hp
theorem wantedF_stable {L : List Nat} {W : List (Option Nat)} (w : WfL L) : ∀ (f g p : Nat), L.length ≤ f + p → L.length ≤ g + p → p ≤ L.length → wantedF L W f p = wantedF L W g p
  | 0, 0, p, _, _, _ => rfl
  | 0, g + 1, p, h, _, hp => by
    unfold wantedF
    have : kids L p = [] := by
      apply List.eq_nil_iff_forall_not_mem.mpr
      intro k hk
      have := kids_gt w hk
      omega
    rw [this]; simp
  | f + 1, 0, p, _, h, hp => by
    unfold wantedF
    have : kids L p = [] := by
      apply List.eq_nil_iff_forall_not_mem.mpr
      intro k hk
      have := kids_gt w hk
      omega
    rw [this]; simp
  | f + 1, g + 1, p, hf, hg, hp => by
    unfold wantedF
    congr 1
    have h : ∀ k ∈ kids L p, wantedF L W f k = wantedF L W g k := fun k hk => by
      have := kids_gt w hk
      exact wantedF_stable w f g k (by omega) (by omega) (by omega)
    rw [Bool.eq_iff_iff, List.any_eq_true, List.any_eq_true]
    constructor
    · rintro ⟨k, hk, e⟩; exact ⟨k, hk, by rw [← h k hk]; exact e⟩
    · rintro ⟨k, hk, e⟩; exact ⟨k, hk, by rw [h k hk]; exact e⟩
theorem wanted_eq {L : List Nat} {W : List (Option Nat)} (w : WfL L) {p : Nat} (hp : p ≤ L.length) : wanted L W p = ((W.getD p none).isSome || (kids L p).any (wanted L W)) := by
  show wantedF L W L.length p = _
  rw [wantedF_stable w L.length (L.length + 1) p (by omega) (by omega) hp]
  rfl

end Oat
namespace PySem.W
open PySem PySem.SeqAt PyProof.Rows
section
variable {prog : Program} {w : World} {A : Around} {E : Value → Shared → Prop} {s : Shared}
/-- min(a, b), compared where a heap stands -/
theorem oa_min_two {a b : Value} {Q : Value → Shared → Prop}
    (h : wpAny (model prog w) A.in1 (pyIter (.ref s.heap.objs.size)) (fun it s₂ => ∃ I fp wr G n P St H bt, it = .ref I ∧ WalksS prog w A.in1 I fp wr G n P St ∧ St 0 s₂ ∧ (∀ b ∈ fp, b < s₂.heap.objs.size) ∧ 0 < n ∧
      (∀ b o, H.get? b = some o → b ∉ wr) ∧ (∀ b o, H.get? b = some o → s₂.heap.get? b = some o) ∧ CmpIn prog w A.in1 .Lt H P bt ∧ ∀ v s', P (argBest bt (n - 1)) v → Moved wr G s₂ s' → Q v s') E
      { s with heap := s.heap.push { cls := .type "tuple", data := .seq #[a, b] } }) :
    wpAny (model prog w) A (call (.builtin "min") [a, b]) Q E s := by
  have hname : (toString "min" ++ toString ".loop" : String) = "min.loop" := by decide
  refine call_function_tree F.kind_min F.plain_min F.entry_min (F.args_min2 _ _) ?_
  show wpAny _ A.in1 (Builtin.Builtins.bindParams "min" ["key", "default"] 0 ⟨[], []⟩ >>= _) _ _ s
  refine wpAny_bind (wpAny_of_eq (show Builtin.Builtins.bindParams "min" ["key", "default"] 0 ⟨[], []⟩ = pure [none, none] from rfl) ?_)
  show wpAny _ A.in1 (newTuple [a, b] >>= _) _ _ s
  refine wpAny_bind (wpAny_newObj_type ?_)
  refine wpAny_bind (wpAny_mono h (fun it s₂ h₂ => ?_) fun _ _ e => e)
  obtain ⟨I, fp, wr, G, n, P, St, H, bt, rfl, W, hst, hfp, hn, hw, hkeep, hcmp, hQ⟩ := h₂
  refine wpAny_bind (wpAny_newObj_type ?_)
  have hSf : s₂.heap.objs.size ∉ fp := fun hm => Nat.lt_irrefl _ (hfp _ hm)
  rw [hname]
  refine wpAny_pure ⟨plainId_quiet F.plain_min_loop _, codeAny_min_loop_firstH W H hw bt hcmp s₂.heap.objs.size hSf (fresh_in hkeep) _ hn (fun b o e => Heap.get?_push_of_some _ (hkeep b o e)) (W.frame 0 s₂ _ s₂.toks hst (Nat.le_refl _) fun b _ o e => Heap.get?_push_of_some _ e) (Heap.get?_push_size _ rfl) fun v s' hP hm => ?_⟩
  exact hQ v s' hP (Moved.drop_new (tk := s₂.toks) hm (Nat.le_refl _))
theorem oa_min_data {a b : Value} {da db : PyData} {as bs : List Addr} {Q : Value → Shared → Prop} (hh : A.handled = none) (ra : Reads s.heap a da as) (rb : Reads s.heap b db bs) (ha : AlikeAll [da, db]) (hu : A.units + 1 + PyData.depthAll [da, db] < cLine)
    (h : ∀ h' tk, (∀ c o, s.heap.get? c = some o → h'.get? c = some o) → Q (if dataLt db da = true then b else a) { s with heap := h', toks := tk }) :
    wpAny (model prog w) A (call (.builtin "min") [a, b]) Q E s := by
  have hT : (s.heap.push { cls := .type "tuple", data := .seq #[a, b] }).IsTuple s.heap.objs.size #[a, b] := ⟨_, Heap.get?_push_size _ rfl, rfl, 0, rfl⟩
  have k0 : ∀ c o, s.heap.get? c = some o → (s.heap.push { cls := .type "tuple", data := .seq #[a, b] }).get? c = some o := fun c o e => Heap.get?_push_of_some _ e
  have hr : ReadsAll (s.heap.push { cls := .type "tuple", data := .seq #[a, b] }) (#[a, b] : Array Value).toList [da, db] _ := .cons (Reads.keeps k0 ra) (.cons (Reads.keeps k0 rb) .nil)
  refine oa_min_two (iter_tupleW (A := A.in1) (s := { s with heap := s.heap.push { cls := .type "tuple", data := .seq #[a, b] } }) hh hT fun s₂ e W st hfp hw hk => ?_)
  refine ⟨_, _, _, _, _, _, _, s.heap.push { cls := .type "tuple", data := .seq #[a, b] }, _, rfl, W, st, hfp, Nat.succ_pos 1, hw, hk, cmpIn_lt (s := { s with heap := s.heap.push { cls := .type "tuple", data := .seq #[a, b] } }) (A := A.in1) hr ha (by show A.units + 1 + _ < _; exact hu), fun v s' hP m => ?_⟩
  obtain ⟨h', tk, rfl, hk'⟩ := moved_old e rfl m
  have q := h h' tk fun c o ec => hk' c o (k0 c o ec)
  have ev : v = if dataLt db da = true then b else a := by
    have hP' : (#[a, b] : Array Value)[argBest (fun i j => dataLt ([da, db].getD i .none) ([da, db].getD j .none)) 1]? = some v := hP
    have eb : argBest (fun i j => dataLt ([da, db].getD i .none) ([da, db].getD j .none)) 1 = if dataLt db da = true then 1 else 0 := by
      simp only [argBest]
      rfl
    rw [eb] at hP'
    by_cases c : dataLt db da = true
    · rw [if_pos c] at hP' ⊢
      exact (Option.some.inj hP').symm
    · rw [if_neg c] at hP' ⊢
      exact (Option.some.inj hP').symm
  rw [ev]
  exact q
/-- min of a list: which item -/
theorem oa_min_list {l : Addr} {vs : Array Value} {x : PyData} {xs : List PyData} {as : List Addr} {Q : Value → Shared → Prop} (hh : A.handled = none) (hl : s.heap.IsList l vs) (hr : ReadsAll s.heap vs.toList (x :: xs) as) (ha : AlikeAll (x :: xs)) (hu : A.units + 1 + PyData.depthAll (x :: xs) < cLine)
    (h : ∀ (i : Nat) v h' tk, i < (x :: xs).length → vs[i]? = some v → (x :: xs).getD i .none = minD x xs → (∀ b o, s.heap.get? b = some o → h'.get? b = some o) → Q v { s with heap := h', toks := tk }) :
    wpAny (model prog w) A (call (.builtin "min") [.ref l]) Q E s := by
  have hn : vs.size = xs.length + 1 := readsAll_len hr
  refine call_min_walkH (iter_listW (A := A.in1) hh hl fun s₂ e W st hfp hw hk => ?_)
  refine ⟨_, _, _, _, _, _, _, s.heap, _, rfl, W, st, hfp, by omega, hw, hk, cmpIn_lt (A := A.in1) hr ha (by show A.units + 1 + _ < _; exact hu), fun v s' hP m => ?_⟩
  obtain ⟨h', tk, rfl, hk'⟩ := moved_old e rfl m
  have e1 : vs.size - 1 = xs.length := by omega
  obtain ⟨e0, e2⟩ := argBest_fold dataLt PyData.none x xs xs.length (Nat.le_refl _)
  rw [List.take_length] at e2
  rw [e1] at hP
  exact h _ v h' tk (Nat.lt_succ_of_le e0) hP e2 hk'
end
end PySem.W
namespace Oa
open PySem PySem.Spec PyProof.Rows L2 Oat
/-! ### rows as data -/
def rowD (e : Int × List Nat) : PyData := .tuple [.int e.1, .tuple (e.2.map fun (n : Nat) => .int (n : Int))]
theorem alikeAll_ints : ∀ (xs ys : List Nat), PySem.W.alikeAll (xs.map fun (n : Nat) => .int (n : Int)) (ys.map fun (n : Nat) => .int (n : Int)) = true
  | [], ys => by cases ys <;> simp [PySem.W.alikeAll]
  | _ :: _, [] => by simp [PySem.W.alikeAll]
  | x :: xs, y :: ys => by
    simp only [List.map_cons, PySem.W.alikeAll, PySem.W.alike, Bool.true_and]
    exact alikeAll_ints xs ys
theorem alike_row (a b : Int × List Nat) : PySem.W.alike (rowD a) (rowD b) = true := by
  unfold rowD
  simp only [PySem.W.alike, PySem.W.alikeAll, Bool.true_and, Bool.and_true]
  exact alikeAll_ints _ _
theorem eqvAll_ints : ∀ (xs ys : List Nat), PyData.eqvAll (xs.map fun (n : Nat) => .int (n : Int)) (ys.map fun (n : Nat) => .int (n : Int)) = decide (xs = ys)
  | [], [] => by simp [PyData.eqvAll]
  | [], _ :: _ => by simp [PyData.eqvAll]
  | _ :: _, [] => by simp [PyData.eqvAll]
  | x :: xs, y :: ys => by
    simp only [List.map_cons, PyData.eqvAll, PyData.eqv]
    rw [eqvAll_ints xs ys, Bool.eq_iff_iff]
    simp only [Bool.and_eq_true, beq_iff_eq, decide_eq_true_eq, List.cons.injEq]
    exact ⟨fun h => ⟨by omega, h.2⟩, fun h => ⟨by rw [h.1], h.2⟩⟩
theorem lt_lexN : ∀ (xs ys : List Nat), decide ((xs.map fun (n : Nat) => (n : Int)) < (ys.map fun (n : Nat) => (n : Int))) = lexN xs ys
  | [], [] => by simp [lexN]
  | [], _ :: _ => by simp [lexN]
  | _ :: _, [] => by simp [lexN]
  | x :: xs, y :: ys => by
    simp only [List.map_cons, lexN]
    by_cases e : x = y
    · subst e
      rw [if_pos rfl, ← lt_lexN xs ys, Bool.eq_iff_iff, decide_eq_true_eq, decide_eq_true_eq]
      exact ⟨fun h => by simpa using h, fun h => by simpa using h⟩
    · rw [if_neg e, Bool.eq_iff_iff, decide_eq_true_eq, decide_eq_true_eq, List.cons_lt_cons_iff]
      exact ⟨fun h => by omega, fun h => .inl (by omega)⟩
theorem lex_ints (xs ys : List Nat) : PyProof.Rows.lexLt itemOrd (PySem.W.keyToksAll (xs.map fun (n : Nat) => .int (n : Int))) (PySem.W.keyToksAll (ys.map fun (n : Nat) => .int (n : Int))) = lexN xs ys := by
  have h := PySem.W.dataLt_ints (xs.map fun (n : Nat) => (n : Int)) (ys.map fun (n : Nat) => (n : Int))
  unfold PySem.W.rowLt at h
  rw [List.map_map, List.map_map] at h
  exact Eq.trans h (lt_lexN xs ys)
theorem lt_row (a b : Int × List Nat) : PySem.W.dataLt (rowD a) (rowD b) = rlt a b := by
  unfold rowD
  rw [PySem.W.dataLt_pair (by simp [PySem.W.alike]) (by simp only [PySem.W.alike]; exact alikeAll_ints _ _), PySem.W.dataLt_int]
  unfold rlt
  have e1 : PyData.eqv (.int a.1) (.int b.1) = decide (a.1 = b.1) := by
    simp only [PyData.eqv]
    rw [Bool.eq_iff_iff, beq_iff_eq, decide_eq_true_eq]
  rw [e1]
  by_cases h : a.1 = b.1
  · rw [if_pos (decide_eq_true h), if_pos h]
    have e2 : PyData.eqv (.tuple (a.2.map fun (n : Nat) => .int (n : Int))) (.tuple (b.2.map fun (n : Nat) => .int (n : Int))) = decide (a.2 = b.2) := by
      simp only [PyData.eqv]
      exact eqvAll_ints _ _
    rw [e2, PySem.W.dataLt_tuple, lex_ints]
    by_cases h2 : a.2 = b.2
    · rw [if_pos (decide_eq_true h2), h2]
      have : ∀ l : List Nat, lexN l l = false := fun l => by
        induction l with
        | nil => rfl
        | cons x l ih => simp [lexN, ih]
      exact (this _).symm
    · rw [if_neg (by simpa using h2)]
  · rw [if_neg (by simpa using h), if_neg h]

theorem alikeAll_rows (es : List (Int × List Nat)) : PySem.W.AlikeAll (es.map rowD) := by
  refine ⟨fun x hx y hy => ?_, fun x hx => ?_⟩
  · obtain ⟨a, _, rfl⟩ := List.mem_map.mp hx
    obtain ⟨b, _, rfl⟩ := List.mem_map.mp hy
    exact alike_row a b
  · obtain ⟨a, _, rfl⟩ := List.mem_map.mp hx
    exact fun z => nomatch z
theorem depth_ints : ∀ xs : List Nat, PyData.depthAll (xs.map fun (n : Nat) => .int (n : Int)) ≤ 1
  | [] => by simp [PyData.depthAll]
  | x :: xs => by
    have := depth_ints xs
    simp only [List.map_cons, PyData.depthAll, PyData.depth]
    omega
theorem depth_row (e : Int × List Nat) : (rowD e).depth ≤ 4 := by
  unfold rowD
  have := depth_ints e.2
  simp only [PyData.depth, PyData.depthAll]
  omega
theorem depth_rows : ∀ es : List (Int × List Nat), PyData.depthAll (es.map rowD) ≤ 4
  | [] => by simp [PyData.depthAll]
  | e :: es => by
    have := depth_rows es
    have := depth_row e
    simp only [List.map_cons, PyData.depthAll]
    omega
theorem minD_rows (e : Int × List Nat) (es : List (Int × List Nat)) : PySem.W.minD (rowD e) (es.map rowD) = rowD (es.foldl rmin e) := by
  unfold PySem.W.minD
  induction es generalizing e with
  | nil => rfl
  | cons x es ih =>
    rw [List.map_cons, List.foldl_cons, List.foldl_cons, lt_row]
    have : (if rlt x e = true then rowD x else rowD e) = rowD (rmin e x) := by
      unfold rmin
      split <;> rfl
    rw [this]
    exact ih _
theorem dpAll_rows {K : PySem.W.Frag} {H : Hp} : ∀ {xs : List V} {es : List (Int × List Nat)}, Paired (fun v e => Dp K H v (rowD e)) xs es → DpAll K H xs (es.map rowD)
  | _, _, .nil => .nil
  | _, _, .cons a b => .cons a (dpAll_rows b)
theorem rowD_inj {a b : Int × List Nat} (h : rowD a = rowD b) : a = b := by
  unfold rowD at h
  injection h with h
  injection h with h1 h2
  injection h1 with h1
  injection h2 with h2 _
  injection h2 with h2
  have e : a.2 = b.2 := by
    have : ∀ xs ys : List Nat, (xs.map fun (n : Nat) => PyData.int (n : Int)) = (ys.map fun (n : Nat) => PyData.int (n : Int)) → xs = ys := by
      intro xs
      induction xs with
      | nil => intro ys h; cases ys with | nil => rfl | cons y ys => cases h
      | cons x xs ih =>
        intro ys h
        cases ys with
        | nil => cases h
        | cons y ys =>
          simp only [List.map_cons] at h
          injection h with h1 h2
          injection h1 with h1
          rw [ih ys h2, show x = y by omega]
    exact this _ _ h2
  exact Prod.ext h1 e
section
variable {X : Cx}
/-- min(a, b) of two rows -/
def rMin2R (K : PySem.W.Frag) : List V → Hp → VK → Prop := fun vs H Q => ∃ x y a b, vs = [x, y] ∧ Dp K H x (rowD a) ∧ Dp K H y (rowD b) ∧ Q (if rlt b a = true then y else x) H
theorem min2R (K : PySem.W.Frag) (hc : X.calm = true) (hu : X.A.units + 64 < cLine) (h : X.K = K := by rfl) : CallR X (.builtin "min") (rMin2R K) := by
  subst h
  intro pins s σ H vs us Q I r h
  obtain ⟨x, y, a, b, rfl, ha, hb, q⟩ := h
  obtain ⟨u, w', rfl, r1, r2⟩ := vals2 r
  obtain ⟨as, h1⟩ := Dp.reads I _ _ _ ha r1
  obtain ⟨bs, h2⟩ := Dp.reads I _ _ _ hb r2
  have d := depth_rows [a, b]
  refine PySem.W.oa_min_data (I.ok.hd hc) h1 h2 (alikeAll_rows [a, b]) (by have : PyData.depthAll [rowD a, rowD b] ≤ 4 := d; omega) fun h' tk k => ⟨_, H, I.kept k, ?_, q⟩
  rw [lt_row]
  split
  · exact r2
  · exact r1
/-- min(xs) of a list of rows -/
def rMinLR (K : PySem.W.Frag) : List V → Hp → VK → Prop := fun vs H Q => ∃ p xs e es, vs = [.ref p] ∧ SqL K H p xs ∧ Paired (fun v e => Dp K H v (rowD e)) xs (e :: es) ∧ ∀ v, Dp K H v (rowD (es.foldl rmin e)) → Q v H
theorem minLR (K : PySem.W.Frag) (hc : X.calm = true) (hu : X.A.units + 64 < cLine) (h : X.K = K := by rfl) : CallR X (.builtin "min") (rMinLR K) := by
  subst h
  intro pins s σ H vs us Q I r h
  obtain ⟨p, xs, e, es, rfl, hs, hp, q⟩ := h
  obtain ⟨its, rv, hl, _⟩ := I.list hs
  rw [Vals.ref1 r]
  obtain ⟨as, hr⟩ := Dp.readsAll I _ _ _ (dpAll_rows hp) rv
  have d := depth_rows (e :: es)
  refine PySem.W.oa_min_list (vs := its.toArray) (x := rowD e) (xs := es.map rowD) (I.ok.hd hc) hl.isList (by simpa using hr) (alikeAll_rows (e :: es)) (by have : PyData.depthAll (rowD e :: es.map rowD) ≤ 4 := d; omega) fun i v h' tk hi hv hm k => ?_
  have hv' : its[i]? = some v := by simpa using hv
  have hi' : i < xs.length := by
    rw [Paired.length hp]
    simpa using hi
  obtain ⟨u, hu', ru⟩ := Vals.get rv (List.getElem?_eq_getElem hi')
  have : u = v := Option.some.inj (hu'.symm.trans hv')
  subst this
  have hd : Dp X.K H xs[i] (rowD ((e :: es).getD i (0, []))) := by
    have : ∀ {xs : List V} {es : List (Int × List Nat)}, Paired (fun v e => Dp X.K H v (rowD e)) xs es → ∀ (i : Nat) (h : i < xs.length), Dp X.K H xs[i] (rowD (es.getD i (0, []))) := by
      intro xs es hp
      induction hp with
      | nil => intro i h; exact absurd h (Nat.not_lt_zero _)
      | cons a b ih =>
        intro i h
        cases i with
        | zero => exact a
        | succ i => exact ih i (by simpa using h)
    exact this hp i hi'
  have eg : (rowD e :: es.map rowD).getD i .none = rowD ((e :: es).getD i (0, [])) := by
    have hl' : i < (e :: es).length := by simpa using hi
    rw [← List.map_cons, List.getD_eq_getElem?_getD, List.getElem?_map, List.getD_eq_getElem?_getD, List.getElem?_eq_getElem hl']
    rfl
  rw [eg, minD_rows] at hm
  rw [hm] at hd
  exact ⟨_, H, I.kept k, ru, q _ hd⟩
/-- a < b of two rows -/
def rLtR (K : PySem.W.Frag) : R2 := fun x y H Q => ∃ a b, Dp K H x (rowD a) ∧ Dp K H y (rowD b) ∧ Q (.bl (rlt a b)) H
end
end Oa
namespace Oa
open PySem PySem.Spec PyProof.Rows L2 Oat
section
variable {X : Cx}
/-! ### a dict beside an empty one; rows compared -/
def rEqE : R2 := fun x y H Q => ∃ a b ks, x = .ref a ∧ y = .ref b ∧ H a = some (.dK ks) ∧ H b = some (.dK []) ∧ Q (.bl ks.isEmpty) H
def rNeE : R2 := fun x y H Q => ∃ a b ks, x = .ref a ∧ y = .ref b ∧ H a = some (.dK ks) ∧ H b = some (.dK []) ∧ Q (.bl (!ks.isEmpty)) H
theorem op_eqE (hu : X.A.units < cLine) : OpR X (compareOp .Eq) rEqE := by
  intro pins s σ H x y v u Q I rx ry h
  obtain ⟨a, b, ks, rfl, rfl, ea, eb, q⟩ := h
  obtain rfl : v = Value.ref a := rx
  obtain rfl : u = Value.ref b := ry
  obtain ⟨_, ya, va, ra, da⟩ := (show ObjOk X.prog X.w H s.heap a (.dK ks) from I.hok a _ ea)
  obtain ⟨_, yb, vb, rb, db⟩ := (show ObjOk X.prog X.w H s.heap b (.dK []) from I.hok b _ eb)
  cases rb
  refine PySem.W.keq_eq (knd := mixKind X.prog X.w) (r := true) ya yb da db hu (fun e => ?_) (fin_bl I q ?_)
  · cases va with
    | nil => exact .nil
    | cons p r => cases e
  · cases ra <;> simp
theorem op_neE (hu : X.A.units < cLine) : OpR X (compareOp .NotEq) rNeE := by
  intro pins s σ H x y v u Q I rx ry h
  obtain ⟨a, b, ks, rfl, rfl, ea, eb, q⟩ := h
  obtain rfl : v = Value.ref a := rx
  obtain rfl : u = Value.ref b := ry
  obtain ⟨_, ya, va, ra, da⟩ := (show ObjOk X.prog X.w H s.heap a (.dK ks) from I.hok a _ ea)
  obtain ⟨_, yb, vb, rb, db⟩ := (show ObjOk X.prog X.w H s.heap b (.dK []) from I.hok b _ eb)
  cases rb
  refine PySem.W.keq_ne (knd := mixKind X.prog X.w) (r := true) ya yb da db hu (fun e => ?_) (fin_bl I q ?_)
  · cases va with
    | nil => exact .nil
    | cons p r => cases e
  · cases ra <;> simp
/-! ### a list beside an empty one -/
def rEqLE (K : PySem.W.Frag) : R2 := fun x y H Q => ∃ a b xs, x = .ref a ∧ y = .ref b ∧ SqL K H a xs ∧ SqL K H b [] ∧ Q (.bl xs.isEmpty) H
def rNeLE (K : PySem.W.Frag) : R2 := fun x y H Q => ∃ a b xs, x = .ref a ∧ y = .ref b ∧ SqL K H a xs ∧ SqL K H b [] ∧ Q (.bl (!xs.isEmpty)) H
theorem op_eqLE (K : PySem.W.Frag) (hu : X.A.units < cLine) (h : X.K = K := by rfl) : OpR X (compareOp .Eq) (rEqLE K) := by
  subst h
  intro pins s σ H x y v u Q I rx ry h
  obtain ⟨a, b, xs, rfl, rfl, ha, hb, q⟩ := h
  obtain rfl : v = Value.ref a := rx
  obtain rfl : u = Value.ref b := ry
  obtain ⟨its, r1, p1, _⟩ := I.list ha
  obtain ⟨its2, r2, p2, _⟩ := I.list hb
  cases r2
  cases r1 with
  | nil => exact SeqAt.eq_listAt (e := fun _ => true) p1.isList p2.isList rfl hu (fun j h1 _ => absurd h1 (Nat.not_lt_zero j)) (fin_bl I q rfl)
  | cons _ _ => exact SeqAt.eq_list_lengthsAt p1.isList p2.isList rfl hu (fin_bl I q rfl)
theorem op_neLE (K : PySem.W.Frag) (hu : X.A.units < cLine) (h : X.K = K := by rfl) : OpR X (compareOp .NotEq) (rNeLE K) := by
  subst h
  intro pins s σ H x y v u Q I rx ry h
  obtain ⟨a, b, xs, rfl, rfl, ha, hb, q⟩ := h
  obtain rfl : v = Value.ref a := rx
  obtain rfl : u = Value.ref b := ry
  obtain ⟨its, r1, p1, _⟩ := I.list ha
  obtain ⟨its2, r2, p2, _⟩ := I.list hb
  cases r2
  cases r1 with
  | nil => exact SeqAt.RcNeAt.lists (e := fun _ => true) p1.isList p2.isList rfl hu (fun j h1 _ => absurd h1 (Nat.not_lt_zero j)) _ _ _ _ (fin_bl I q rfl)
  | cons _ _ => exact SeqAt.RcNeAt.lists_lengths p1.isList p2.isList rfl hu _ _ _ _ (fin_bl I q rfl)
theorem op_ltR (K : PySem.W.Frag) (hu : X.A.units + 64 < cLine) (h : X.K = K := by rfl) : OpR X (compareOp .Lt) (rLtR K) := by
  subst h
  intro pins s σ H x y v u Q I rx ry h
  obtain ⟨a, b, ha, hb, q⟩ := h
  obtain ⟨as, h1⟩ := Dp.reads I _ _ _ ha rx
  obtain ⟨bs, h2⟩ := Dp.reads I _ _ _ hb ry
  have d := depth_row a
  refine PySem.W.rcLt_alike _ _ X.A s v u _ _ h1 h2 (alike_row a b) (fun z => nomatch z) (by have := Nat.min_le_left (rowD a).depth (rowD b).depth; omega) X.prog X.w _ _ (fin_bl I q ?_)
  exact (lt_row a b).symm
end
/-! ### dicts with whole keys, by their mirror -/
abbrev PairD {α : Type} (R : V → α → Prop) (kvs : List (Key × V)) (F : List (Nat × α)) : Prop := Paired (fun (kv : Key × V) (e : Nat × α) => kv.1 = Sum.inl ((e.1 : Nat) : Int) ∧ R kv.2 e.2) kvs F
theorem keyNat {a b : Nat} : (Sum.inl ((a : Nat) : Int) : Key) = Sum.inl ((b : Nat) : Int) ↔ a = b := by
  constructor
  · intro h
    have := Sum.inl.inj h
    omega
  · rintro rfl; rfl
section
variable {α : Type} {R : V → α → Prop}
theorem pd_imp {S : V → α → Prop} {kvs : List (Key × V)} {F : List (Nat × α)} (h : PairD R kvs F) (f : ∀ v e, R v e → S v e) : PairD S kvs F := paired_imp h fun _ _ q => ⟨q.1, f _ _ q.2⟩
theorem pd_get : ∀ {kvs : List (Key × V)} {F : List (Nat × α)} (k : Nat), PairD R kvs F → (dget F k = none → valV kvs (Sum.inl ((k : Nat) : Int)) = none) ∧ (∀ e, dget F k = some e → ∃ v, valV kvs (Sum.inl ((k : Nat) : Int)) = some v ∧ R v e)
  | _, _, k, .nil => ⟨fun _ => rfl, fun e h => by cases h⟩
  | (j, u) :: kvs, (i, a) :: F, k, .cons h t => by
    obtain ⟨h1, h2⟩ := h
    have h1 : j = Sum.inl ((i : Nat) : Int) := h1
    subst h1
    have ih := pd_get k t
    by_cases e : i = k
    · subst e
      refine ⟨fun z => ?_, fun b z => ?_⟩
      · simp [dget] at z
      · simp only [dget, if_true] at z
        have z := Option.some.inj z
        subst z
        exact ⟨u, valV_pos (p := (Sum.inl ((i : Nat) : Int), u)) rfl, h2⟩
    · have e2 : ¬ ((Sum.inl ((i : Nat) : Int), u) : Key × V).1 = Sum.inl ((k : Nat) : Int) := fun z => e (keyNat.mp z)
      rw [valV_neg e2]
      simp only [dget, if_neg e]
      exact ih
theorem pd_any : ∀ {kvs : List (Key × V)} {F : List (Nat × α)} (k : Nat), PairD R kvs F → (kvs.any fun kv => decide (kv.1 = Sum.inl ((k : Nat) : Int))) = (dget F k).isSome
  | kvs, F, k, h => by
    rw [valV_any]
    have g := pd_get k h
    cases e : dget F k with
    | none => rw [g.1 e]; rfl
    | some a =>
      obtain ⟨v, hv, _⟩ := g.2 a e
      rw [hv]; rfl
theorem dput_in {F : List (Nat × α)} {k : Nat} {a : α} (h : (F.map (·.1)).Nodup) (hk : (dget F k).isSome = true) : dput F k a = F.map (fun x => if x.1 = k then (x.1, a) else x) := by
  induction F with
  | nil => cases hk
  | cons x F ih =>
    obtain ⟨i, b⟩ := x
    have h : (i :: F.map (·.1)).Nodup := h
    obtain ⟨h1, h2⟩ := List.nodup_cons.mp h
    by_cases e : i = k
    · subst e
      simp only [dput, if_true, List.map_cons]
      congr 1
      have : ∀ x ∈ F, (if x.1 = i then (x.1, a) else x) = x := fun x hx => if_neg fun z => h1 (List.mem_map.mpr ⟨x, hx, z⟩)
      rw [List.map_congr_left this]
      simp
    · simp only [dput, if_neg e, List.map_cons]
      congr 1
      refine ih h2 ?_
      simpa [dget, e] using hk
theorem dput_out {F : List (Nat × α)} {k : Nat} {a : α} (hk : dget F k = none) : dput F k a = F ++ [(k, a)] := by
  induction F with
  | nil => rfl
  | cons x F ih =>
    obtain ⟨i, b⟩ := x
    by_cases e : i = k
    · simp [dget, e] at hk
    · simp only [dput, if_neg e, List.cons_append]
      rw [ih (by simpa [dget, e] using hk)]
theorem pd_put {kvs : List (Key × V)} {F : List (Nat × α)} {k : Nat} {v : V} {a : α} (nd : (F.map (·.1)).Nodup) (h : PairD R kvs F) (r : R v a) : PairD R (putK kvs (Sum.inl ((k : Nat) : Int)) v) (dput F k a) := by
  have e := pd_any k h
  unfold putK
  cases z : (dget F k).isSome with
  | true =>
    rw [e, z, if_pos rfl, dput_in nd z]
    clear e z nd
    have : ∀ {kvs : List (Key × V)} {F : List (Nat × α)}, PairD R kvs F → PairD R (kvs.map fun kv => if kv.1 = Sum.inl ((k : Nat) : Int) then (kv.1, v) else kv) (F.map fun x => if x.1 = k then (x.1, a) else x) := by
      intro kvs F h
      induction h with
      | nil => exact .nil
      | @cons p x ps xs h t ih =>
        obtain ⟨h1, h2⟩ := h
        refine .cons ?_ ih
        show (if p.1 = Sum.inl ((k : Nat) : Int) then (p.1, v) else p).1 = Sum.inl (((if x.1 = k then (x.1, a) else x).1 : Nat) : Int) ∧ R (if p.1 = Sum.inl ((k : Nat) : Int) then (p.1, v) else p).2 (if x.1 = k then (x.1, a) else x).2
        by_cases c : x.1 = k
        · have c2 : p.1 = Sum.inl ((k : Nat) : Int) := by rw [h1, c]
          rw [if_pos c2, if_pos c]
          exact ⟨h1, r⟩
        · have c2 : ¬ p.1 = Sum.inl ((k : Nat) : Int) := by rw [h1]; exact fun z => c (keyNat.mp z)
          rw [if_neg c2, if_neg c]
          exact ⟨h1, h2⟩
    exact this h
  | false =>
    rw [e, z, if_neg Bool.false_ne_true, dput_out (by cases q : dget F k with | none => rfl | some a => rw [q] at z; cases z)]
    exact paired_snoc h ⟨rfl, r⟩
theorem dput_keys (F : List (Nat × α)) (k : Nat) (a : α) (nd : (F.map (·.1)).Nodup) : ((dput F k a).map (·.1)).Nodup := by
  cases z : dget F k with
  | some b =>
    rw [dput_in nd (by rw [z]; rfl), List.map_map]
    have : ((fun x : Nat × α => x.1) ∘ fun x => if x.1 = k then (x.1, a) else x) = fun x => x.1 := by
      funext x
      show (if x.1 = k then (x.1, a) else x).1 = x.1
      split <;> rfl
    rw [this]
    exact nd
  | none =>
    rw [dput_out z, List.map_append]
    refine nd_snoc nd fun m => ?_
    obtain ⟨x, hx, e⟩ := List.mem_map.mp m
    have : ∀ {F : List (Nat × α)}, x ∈ F → dget F k ≠ none := by
      intro F
      induction F with
      | nil => intro h; cases h
      | cons y F ih =>
        intro h
        obtain ⟨i, b⟩ := y
        by_cases c : i = k
        · simp [dget, c]
        · simp only [dget, if_neg c]
          rcases List.mem_cons.mp h with h | h
          · subst h
            exact absurd e c
          · exact ih h
    exact this hx z
theorem dget_at : ∀ {F : List (Nat × α)} {i k : Nat} {a : α}, (F.map (·.1)).Nodup → F[i]? = some (k, a) → dget F k = some a
  | [], i, _, _, _, h => by simp at h
  | (j, b) :: F, 0, k, a, _, h => by
    have h := Option.some.inj h
    injection h with h1 h2
    simp [dget, h1, h2]
  | (j, b) :: F, i + 1, k, a, nd, h => by
    have nd : (j :: F.map (·.1)).Nodup := nd
    obtain ⟨h1, h2⟩ := List.nodup_cons.mp nd
    have h : F[i]? = some (k, a) := by simpa using h
    have : j ≠ k := fun e => h1 (by
      rw [e]
      exact List.mem_map.mpr ⟨(k, a), List.mem_of_getElem? h, rfl⟩)
    simp only [dget, if_neg this]
    exact dget_at h2 h
theorem pd_len {kvs : List (Key × V)} {F : List (Nat × α)} (h : PairD R kvs F) : kvs.length = F.length := Paired.length h
theorem pd_at : ∀ {kvs : List (Key × V)} {F : List (Nat × α)} {i : Nat} {k : Key} {v : V}, PairD R kvs F → kvs[i]? = some (k, v) → ∃ n a, F[i]? = some (n, a) ∧ k = Sum.inl ((n : Nat) : Int) ∧ R v a
  | _, _, i, _, _, .nil, h => by simp at h
  | _, _, 0, k, v, .cons (b := y) q _, h => by
    have h := Option.some.inj h
    subst h
    exact ⟨y.1, y.2, rfl, q.1, q.2⟩
  | _, _, i + 1, k, v, .cons _ t, h => by
    obtain ⟨n, a, h1, h2, h3⟩ := pd_at (i := i) t (by simpa using h)
    exact ⟨n, a, by simpa using h1, h2, h3⟩
end
/-! ### tuples stay -/
def TExt (H H' : Hp) : Prop := ∀ a xs, Rd H a (.tup xs) → Rd H' a (.tup xs)
theorem TExt.refl (H : Hp) : TExt H H := fun _ _ h => h
theorem TExt.trans {H H1 H2 : Hp} (a : TExt H H1) (b : TExt H1 H2) : TExt H H2 := fun c o h => b c o (a c o h)
theorem Ext.tx {H H' : Hp} (e : Ext H H') : TExt H H' := fun a xs h => e a _ nf_t h
theorem same_tx {H H' : Hp} (e : Same H H') : TExt H H' := (ext_of e).tx
theorem TExt.t {K : PySem.W.Frag} {H H' : Hp} {a : Addr} {xs : List V} (e : TExt H H') (h : SqT K H a xs) : SqT K H' a xs := by
  rcases h with h | h
  · exact .inl (e _ _ h)
  · exact .inr h
def NoTup (o : Option HO) : Prop := match o with
  | some (.tup _) => False
  | some (.frz _ (.tup _)) => False
  | _ => True
theorem tx_upd {H : Hp} {d : Addr} {o : HO} (h : NoTup (H d)) : TExt H (upd H d o) := fun a xs r => by
  have hne : a ≠ d := by
    rintro rfl
    rcases r with r | ⟨ob, r⟩
    · rw [r] at h
      exact h
    · rw [r] at h
      exact h
  rcases r with r | ⟨ob, r⟩
  · exact .inl (by rw [upd_ne hne]; exact r)
  · exact .inr ⟨ob, by rw [upd_ne hne]; exact r⟩
/-- a row (sum, parting) as it lies -/
def RowAt (K : PySem.W.Frag) (H : Hp) (v : V) (e : Int × List Nat) : Prop := ∃ p q, v = .ref p ∧ SqT K H p [.int e.1, .ref q] ∧ SqT K H q (e.2.map fun (n : Nat) => V.int (n : Int))
theorem RowAt.tx {K : PySem.W.Frag} {H H' : Hp} {v : V} {e : Int × List Nat} (h : RowAt K H v e) (x : TExt H H') : RowAt K H' v e := by
  obtain ⟨p, q, r, h1, h2⟩ := h
  exact ⟨p, q, r, x.t h1, x.t h2⟩
theorem dpAll_ints {K : PySem.W.Frag} {H : Hp} : ∀ l : List Nat, DpAll K H (l.map fun (n : Nat) => V.int (n : Int)) (l.map fun (n : Nat) => .int (n : Int))
  | [] => .nil
  | _ :: l => .cons (.int _) (dpAll_ints l)
theorem RowAt.dp {K : PySem.W.Frag} {H : Hp} {v : V} {e : Int × List Nat} (h : RowAt K H v e) : Dp K H v (rowD e) := by
  obtain ⟨p, q, rfl, h1, h2⟩ := h
  exact .tup h1 (.cons (.int _) (.cons (.tup h2 (dpAll_ints _)) .nil))
theorem rowAt_dp {K : PySem.W.Frag} {H : Hp} {v : V} {e : Int × List Nat} (h : Dp K H v (rowD e)) : RowAt K H v e := by
  unfold rowD at h
  cases h with
  | tup h1 hs =>
    cases hs with
    | cons a hs =>
      cases hs with
      | cons b hs =>
        cases hs
        cases a
        cases b with
        | tup h2 hi =>
          refine ⟨_, _, rfl, h1, ?_⟩
          have : ∀ {l : List Nat} {vs : List V}, DpAll K H vs (l.map fun (n : Nat) => .int (n : Int)) → vs = l.map fun (n : Nat) => V.int (n : Int) := by
            intro l
            induction l with
            | nil => intro vs h; cases h; rfl
            | cons x l ih =>
              intro vs h
              cases h with
              | cons a b =>
                cases a
                rw [ih b]
                rfl
          rw [← this hi]
          exact h2
end Oa
namespace Oa
open PySem PySem.Spec PyProof.Rows L2
def topS (i : Nat) : Stmt := PySem.Challenge.pw_oatroads_k11_whole_texts.main.body.getD i (.Pass ⟨0, 0, 0, 0⟩)
abbrev c_OatError : Stmt := topS 1
abbrev c_BadLand : Stmt := topS 2
abbrev c_BadWorks : Stmt := topS 3
abbrev c_BadWants : Stmt := topS 4
abbrev c_BadPlan : Stmt := topS 5
abbrev c_BadPaper : Stmt := topS 6
abbrev c_BadText : Stmt := topS 7
abbrev c_NoneSuch : Stmt := topS 8
abbrev s_is_whole : Stmt := topS 9
abbrev s_is_land : Stmt := topS 13
abbrev s_is_wants : Stmt := topS 14
abbrev s_look_land : Stmt := topS 15
abbrev s_land_text : Stmt := topS 20
abbrev s_number_in : Stmt := topS 21
abbrev s_land_read : Stmt := topS 22
abbrev s_deed_text : Stmt := topS 23
abbrev s_is_deed : Stmt := topS 24
abbrev s_plan_text : Stmt := topS 25
abbrev s_plan_read : Stmt := topS 26
abbrev s__law_town : Stmt := topS 28
abbrev s__law_draw : Stmt := topS 29
abbrev s__law_pick : Stmt := topS 30
abbrev s__law_refusal : Stmt := topS 31
abbrev s__law_land : Stmt := topS 32
abbrev s__law_wants : Stmt := topS 33
abbrev s__law_text : Stmt := topS 34
abbrev s__law_words : Stmt := topS 35
abbrev s__law_read : Stmt := topS 36
abbrev s__law_written : Stmt := topS 37
abbrev s__law_none : Stmt := topS 38
abbrev s_law : Stmt := topS 39
theorem sc_is_whole : FnScope ["thing", "low", "high"] ["thing", "low", "high"] (defScope s_is_whole) := ⟨rfl, rfl, rfl, by decide +kernel, rfl, by decide +kernel, by decide +kernel⟩
theorem sc_is_land : FnScope ["thing", "k"] ["thing"] (defScope s_is_land) := ⟨rfl, rfl, rfl, by decide +kernel, rfl, by decide +kernel, by decide +kernel⟩
theorem sc_is_wants : FnScope ["land", "thing", "one"] ["land", "thing"] (defScope s_is_wants) := ⟨rfl, rfl, rfl, by decide +kernel, rfl, by decide +kernel, by decide +kernel⟩
theorem sc_look_land : FnScope ["land"] ["land"] (defScope s_look_land) := ⟨rfl, rfl, rfl, by decide +kernel, rfl, by decide +kernel, by decide +kernel⟩
theorem sc_land_text : FnScope ["land", "wants", "rows", "place", "ahead"] ["land", "wants"] (defScope s_land_text) := ⟨rfl, rfl, rfl, by decide +kernel, rfl, by decide +kernel, by decide +kernel⟩
theorem sc_number_in : FnScope ["text", "sign"] ["text"] (defScope s_number_in) := ⟨rfl, rfl, rfl, by decide +kernel, rfl, by decide +kernel, by decide +kernel⟩
theorem sc_land_read : FnScope ["text", "rows", "land", "wants", "line", "row"] ["text"] (defScope s_land_read) := ⟨rfl, rfl, rfl, by decide +kernel, rfl, by decide +kernel, by decide +kernel⟩
theorem sc_deed_text : FnScope ["deed"] ["deed"] (defScope s_deed_text) := ⟨rfl, rfl, rfl, by decide +kernel, rfl, by decide +kernel, by decide +kernel⟩
theorem sc_is_deed : FnScope ["thing", "numbers", "one"] ["thing"] (defScope s_is_deed) := ⟨rfl, rfl, rfl, by decide +kernel, rfl, by decide +kernel, by decide +kernel⟩
theorem sc_plan_text : FnScope ["plan", "one"] ["plan"] (defScope s_plan_text) := ⟨rfl, rfl, rfl, by decide +kernel, rfl, by decide +kernel, by decide +kernel⟩
theorem sc_plan_read : FnScope ["text", "words", "found", "word", "kinds", "kind"] ["text"] (defScope s_plan_read) := ⟨rfl, rfl, rfl, by decide +kernel, rfl, by decide +kernel, by decide +kernel⟩
theorem sc__law_town : FnScope ["script"] ["script"] (defScope s__law_town) := ⟨rfl, rfl, rfl, by decide +kernel, rfl, by decide +kernel, by decide +kernel⟩
theorem sc__law_draw : FnScope ["town", "count", "numbers", "at", "cell", "mixed"] ["town", "count"] (defScope s__law_draw) := ⟨rfl, rfl, rfl, by decide +kernel, rfl, by decide +kernel, by decide +kernel⟩
theorem sc__law_pick : FnScope ["town", "some"] ["town", "some"] (defScope s__law_pick) := ⟨rfl, rfl, rfl, by decide +kernel, rfl, by decide +kernel, by decide +kernel⟩
theorem sc__law_refusal : FnScope ["caught", "sorts"] ["caught"] (defScope s__law_refusal) := ⟨rfl, rfl, rfl, by decide +kernel, rfl, by decide +kernel, by decide +kernel⟩
theorem sc__law_land : FnScope ["town", "count", "found", "k"] ["town", "count"] (defScope s__law_land) := ⟨rfl, rfl, rfl, by decide +kernel, rfl, by decide +kernel, by decide +kernel⟩
theorem sc__law_wants : FnScope ["town", "count", "most_of", "found", "k"] ["town", "count", "most_of"] (defScope s__law_wants) := ⟨rfl, rfl, rfl, by decide +kernel, rfl, by decide +kernel, by decide +kernel⟩
theorem sc__law_text : FnScope ["land_here", "wants_here", "rows", "k"] ["land_here", "wants_here"] (defScope s__law_text) := ⟨rfl, rfl, rfl, by decide +kernel, rfl, by decide +kernel, by decide +kernel⟩
theorem sc__law_words : FnScope ["deeds", "signs", "word", "cart", "thing"] ["deeds"] (defScope s__law_words) := ⟨rfl, rfl, rfl, by decide +kernel, rfl, by decide +kernel, by decide +kernel⟩
theorem sc__law_read : FnScope ["sort_of", "text", "told", "caught", "e"] ["sort_of", "text"] (defScope s__law_read) := ⟨rfl, rfl, rfl, by decide +kernel, rfl, by decide +kernel, by decide +kernel⟩
theorem sc__law_written : FnScope ["sort_of", "one", "two", "caught", "e"] ["sort_of", "one", "two"] (defScope s__law_written) := ⟨rfl, rfl, rfl, by decide +kernel, rfl, by decide +kernel, by decide +kernel⟩
theorem sc__law_none : FnScope ["odd", "bad", "one"] [] (defScope s__law_none) := ⟨rfl, rfl, rfl, by decide +kernel, rfl, by decide +kernel, by decide +kernel⟩
theorem sc_law : FnScope ["script", "town", "count", "land_here", "wants_here", "text", "deeds", "k", "words", "turn_of", "sort_of", "own", "at", "mark", "other", "told", "again"] ["script"] (defScope s_law) := ⟨rfl, rfl, rfl, by decide +kernel, rfl, by decide +kernel, by decide +kernel⟩
theorem sc_BadPlan___init__ : FnScope ["self", "number"] ["self", "number"] (defScope (inClass c_BadPlan 0)) := ⟨rfl, rfl, rfl, by decide +kernel, rfl, by decide +kernel, by decide +kernel⟩
structure Txt (K : PySem.W.Frag) (mg : Str → Option Value) : Prop where
  d_is_whole : Dfn K mg "is_whole" s_is_whole []
  d_is_land : Dfn K mg "is_land" s_is_land []
  d_is_wants : Dfn K mg "is_wants" s_is_wants []
  d_look_land : Dfn K mg "look_land" s_look_land []
  d_land_text : Dfn K mg "land_text" s_land_text []
  d_number_in : Dfn K mg "number_in" s_number_in []
  d_land_read : Dfn K mg "land_read" s_land_read []
  d_deed_text : Dfn K mg "deed_text" s_deed_text []
  d_is_deed : Dfn K mg "is_deed" s_is_deed []
  d_plan_text : Dfn K mg "plan_text" s_plan_text []
  d_plan_read : Dfn K mg "plan_read" s_plan_read []
  d__law_town : Dfn K mg "_law_town" s__law_town []
  d__law_draw : Dfn K mg "_law_draw" s__law_draw []
  d__law_pick : Dfn K mg "_law_pick" s__law_pick []
  d__law_refusal : Dfn K mg "_law_refusal" s__law_refusal []
  d__law_land : Dfn K mg "_law_land" s__law_land []
  d__law_wants : Dfn K mg "_law_wants" s__law_wants []
  d__law_text : Dfn K mg "_law_text" s__law_text []
  d__law_words : Dfn K mg "_law_words" s__law_words []
  d__law_read : Dfn K mg "_law_read" s__law_read []
  d__law_written : Dfn K mg "_law_written" s__law_written []
  d__law_none : Dfn K mg "_law_none" s__law_none []
  d_law : Dfn K mg "law" s_law []
  d_BadPlan___init__ : ∃ fd, FunD K "__init__" "BadPlan.__init__" (defArgs (inClass c_BadPlan 0)) (defBody (inClass c_BadPlan 0)) (defScope (inClass c_BadPlan 0)) [] [] (He.ma K (He.ga K "BadPlan") "__init__") fd
  b_ValueError : mg "ValueError" = none
  b_all : mg "all" = none
  b_any : mg "any" = none
  b_bool : mg "bool" = none
  b_int : mg "int" = none
  b_isinstance : mg "isinstance" = none
  b_len : mg "len" = none
  b_list : mg "list" = none
  b_range : mg "range" = none
  b_str : mg "str" = none
  b_tuple : mg "tuple" = none
  i_MOST_PLACES : ∃ t, mg "MOST_PLACES" = some (.int 30 t)
  i_MOST_WANT : ∃ t, mg "MOST_WANT" = some (.int 999 t)
  i_MOST_DEEDS : ∃ t, mg "MOST_DEEDS" = some (.int 20000 t)
end Oa
namespace Oa
open PySem PySem.Spec PyProof.Rows L2 Oat
/-- an exception object of the class cls that was raised and caught, kept as a value -/
def ExH (cls : Value) (d : Option Addr) (a : Addr) : HO := .ext fun h => ∃ (oe : Obj) (vs : Array Value), h.get? a = some oe ∧ Zc cls d oe ∧ oe.data = .fields vs
theorem exH_ok {P : Program} {w : World} {H : Hp} {h : Heap} {a : Addr} {cls : Value} {d : Option Addr} {oe : Obj} {vs : Array Value} (e : h.get? a = some oe) (z : Zc cls d oe) (hd : oe.data = .fields vs) : ObjOk P w H h a (ExH cls d a) :=
  ⟨⟨oe, vs, e, z, hd⟩, ⟨oe, e⟩, fun _ _ ⟨o, v, q, r⟩ k => ⟨o, v, k o q, r⟩⟩
section
variable {X : Cx} {pins : List (Addr × Obj)} {σ : L2.St} {H : Hp} {s : Shared}
/-- an object that stands already is tracked from now on -/
theorem inv_lay {a : Addr} {o : HO} (I : Inv X pins σ H s) (hn : H a = none) (h0 : X.s_0.heap.get? a = none) (hp : ∀ p ∈ X.pn ++ pins, p.1 ≠ a) (nL : a ≠ X.env.locals) (nC : ∀ x c, X.env.cells.lookup x = some c → c ≠ a)
    (new : ObjOk X.prog X.w (upd H a o) s.heap a o) : Inv X pins σ (upd H a o) s := by
  refine ⟨I.ok, I.os, I.bare, ⟨I.base.keep, I.base.slot, fun b u e n hb => ?_, I.base.there, fun b xs e => ?_, fun b ob u e => ?_, fun b ps e => ?_⟩, I.loc, I.cell, ?_, fun x c e => ?_, fun p hpp => ?_, fun b u e => ?_, I.len⟩
  · rw [upd_ne (fun z => by rw [z, h0] at e; cases e)]
    exact I.base.free b u e n hb
  · have := I.base.tups b xs e
    rw [upd_ne (ne_of_none this hn)]
    exact this
  · have := I.base.frzs b ob u e
    rw [upd_ne (ne_of_none this hn)]
    exact this
  · obtain ⟨m, this⟩ := I.base.tbls b ps e
    exact ⟨m, by rw [upd_ne (ne_of_none this hn)]; exact this⟩
  · rw [upd_ne nL.symm]
    exact I.free
  · rw [upd_ne (nC x c e)]
    exact I.freeC x c e
  · obtain ⟨e, n, ne, nf, d⟩ := I.pin p hpp
    exact ⟨e, by rw [upd_ne (hp p hpp)]; exact n, ne, nf, d⟩
  · by_cases hb : b = a
    · subst hb
      rw [upd_same] at e
      cases e
      exact new
    · rw [upd_ne hb] at e
      exact (I.hok b u e).stay (fun c v _ q => q) (fun c q => by rw [upd_ne (ne_of_none q hn)]; exact q) fun c xs q => by rw [upd_ne (ne_of_none q hn)]; exact q
theorem inv_suite {a : Addr} (I : Inv X pins σ H s) : Inv (X.suite a (X.pn ++ pins)) [] σ H s :=
  ⟨I.ok.suite _ _, I.os, I.bare, I.base, I.loc, I.cell, I.free, I.freeC, fun p hp => I.pin p (by rw [List.append_nil] at hp; exact hp), I.hok, I.len⟩
theorem inv_unsuite {a : Addr} {pn' : List (Addr × Obj)} (I : Inv (X.suite a (X.pn ++ pins)) pn' σ H s) (ok : X.Ok) : Inv X pins σ H s :=
  ⟨ok, I.os, I.bare, I.base, I.loc, I.cell, I.free, I.freeC, fun p hp => I.pin p (List.mem_append_left _ hp), I.hok, I.len⟩
end
/-- what the clause 'except x as n' wishes of an exception of the body: it is tracked from the suite on -/
def wKeep (K : PySem.W.Frag) (c : Value) (i : Nat) (ts : TS) (Wout : WX) (D : Ends) : WX := fun cls d σ H =>
  ∃ b, PySem.W.exmOne K cls c = some b ∧ (b = true → ∀ a, H a = none → ts { nx := fun σ' H' => D.nx (σ'.set i none) H', rt := D.rt, bk := fun σ' H' => D.bk (σ'.set i none) H', ct := fun σ' H' => D.ct (σ'.set i none) H' } (σ.set i (some (.ref a))) (upd H a (ExH cls d a))) ∧
    (b = false → Wout cls d σ H)
section
variable {X : Cx} {x n : Str} {c : Value} {i : Nat} {body suite : List Stmt} {b₀ : Stmt} {np pos pos' : Pos} {tb : WX → TS} {ts : TS} {Wout : WX}
theorem ps_try_keep (hs : X.stack = X.env :: X.outer) (hf : X.env.frame = some X.env.locals) (hex : X.ex = []) (hN : X.N.Nodup) (hi : X.N[i]? = some n) (hln : X.env.kindOf n = some .local) (hc : Names X x c) (tk : Takes X Wout)
    (hb : ∀ (W : WX) (pn : List (Addr × Obj)) (xe : Value → Shared → Prop), Takes (X.tr pn xe) W → PassesOwn (model X.prog X.w) X.A X.env xe → PSs (X.tr pn xe) body (tb W))
    (hsu : ∀ (a : Addr) (pn : List (Addr × Obj)), PSs (X.suite a pn) (b₀ :: suite) ts) :
    PS X (.Try body [.ExceptHandler (some (.Name x np)) (some n) (b₀ :: suite) pos'] [] [] pos) (fun D σ H => tb (wKeep X.K c i ts Wout D) D σ H) := by
  refine ⟨fun pins s σ H D I h => ?_⟩
  have ok := I.ok
  have hfr : X.A.frames = some (X.env :: X.outer) := by rw [ok.frames, hs]
  have hloc : Loc X.env.scope n := .inl hln
  refine wpAny_Try_except ?_
  refine wpAny_mono ((hb (wKeep X.K c i ts Wout D) (X.pn ++ pins) (fun e s₁ => wpAny (model X.prog X.w) X.A (noteFrame e X.env) (fun _ s₂ => wpAny (model X.prog X.w) X.A (setFlight e none) (fun _ s₃ =>
    wpAny (model X.prog X.w) X.A (handleBy e X.env [.ExceptHandler (some (.Name x np)) (some n) (b₀ :: suite) pos']) (SP X pins D) X.xe s₃) X.xe s₂) X.xe s₁) (fun u s' xx => ?_) PassesOwn.looking).run [] s σ H D (I.toTry _) h) (fun f s1 hsp => ?_) (fun e s1 he => he)
  · obtain ⟨a, B, sI, pins', σ', H', cls, d, rfl, J', nb, up, sky, na, os, ag, b, hb1, hyes, hno⟩ := xx
    have J : Inv X pins σ' H' sI := J'.ofTry ok
    have sky' : Sky B (X.env :: X.outer) a (Zc cls d) X.env.locals s'.heap := by rw [← hs]; exact sky
    show wpAny (model X.prog X.w) X.A (noteFrame (.ref a) X.env) _ _ _
    refine Sky.land Zc.steady hfr hf sky' fun h3 fl3 up3 => ?_
    have J3 : Inv X pins σ' H' { s' with heap := h3 } := J.landed nb fl3.1 (up.trans up3) os ag
    obtain ⟨oe3, vs3, he3, hz3, hd3⟩ := fl3.there
    have notFr : ∀ {h : Heap} {o : Obj} {vs : Array Value}, h.FunFrames B (X.env :: X.outer) → h.get? a = some o → o.data = .fields vs → a ∉ frs (X.env :: X.outer) := fun {h o vs} ff e dd hm => by
      obtain ⟨_, o', e', hnf⟩ := ff.mem hm
      rw [e] at e'; cases e'
      exact hnf _ dd
    have nfr := notFr fl3.2.2.1 he3 hd3
    have nL : a ≠ X.env.locals := fun z => nfr (List.mem_filterMap.mpr ⟨X.env, List.mem_cons_self, by rw [hf, z]⟩)
    have nF : a ∉ X.fs := fun hm => by
      obtain ⟨e, he, q⟩ := List.mem_filterMap.mp hm
      exact nfr (List.mem_filterMap.mpr ⟨e, List.mem_cons_of_mem _ he, q⟩)
    have aB : B.get? a = none := fl3.2.1
    have aI : sI.heap.get? a = none := by
      cases q : sI.heap.get? a with
      | none => rfl
      | some o =>
        have := nb a o q (by rw [hs]; exact nfr)
        rw [aB] at this
        cases this
    have a0 : X.s_0.heap.get? a = none := by
      cases q : X.s_0.heap.get? a with
      | none => rfl
      | some o =>
        obtain ⟨o', z⟩ := J.base.there a o q (by rw [hex]; exact fun z => nomatch z)
        rw [aI] at z
        cases z
    have aP : ∀ p ∈ X.pn ++ pins, p.1 ≠ a := fun p hp z => by
      have := (J.pin p hp).1
      rw [z, aI] at this
      cases this
    have S3 := J3.suite he3 hd3 na nL nF
    refine wpAny_handleBy_cons (codeAny_handlers_test ?_) (by intro q; cases q)
    have LT : PySem.W.Looks (model X.prog X.w) h3 (typeOf (.ref a)) cls := fun A Q E s k q => wpAny_typeOf_ref (k _ _ he3) (by rw [hz3.1]; exact q)
    have LM := PySem.W.exm_one (M := model X.prog X.w) (J3.kIn) LT hb1
    have test : ∀ {Q : Value → Shared → Prop} {E : Value → Shared → Prop}, Q c { s' with heap := h3 } → wpAny (model X.prog X.w) (X.A.mark (some (.ref a))) (eval (.Name x np) X.env) Q E { s' with heap := h3 } := fun {Q E} q => by
      obtain ⟨hg, hdbg, hm | ⟨hm, hv, hnn⟩⟩ := hc
      · exact ld_glob (X := X.suite a ((a, oe3) :: (X.pn ++ pins))) S3 hg hm q hdbg
      · exact ld_blt (X := X.suite a ((a, oe3) :: (X.pn ++ pins))) S3 hg hm hv q hnn hdbg
    refine test (LM.here ?_)
    cases b with
    | true =>
      refine codeAny_handlers_suite_as ?_
      refine HandSPX.lands_againZ fl3 fun h4 fl4 up4 => ?_
      have J4 : Inv X pins σ' H' { s' with heap := h4 } := J.landed nb fl4.1 ((up.trans up3).trans up4) os ag
      obtain ⟨oe4, vs4, he4, hz4, hd4⟩ := fl4.there
      have nC : ∀ x c, X.env.cells.lookup x = some c → c ≠ a := fun x c e z => by
        obtain ⟨v, o, ho, hcd⟩ := J4.cell x c e
        rw [z] at ho
        have ho : h4.get? a = some o := ho
        rw [he4] at ho
        cases ho
        rw [hd4] at hcd
        cases hcd
      have K4 : Inv X pins σ' (upd H' a (ExH cls d a)) { s' with heap := h4 } := inv_lay J4 na a0 aP nL nC (exH_ok he4 hz4 hd4)
      have S4 : Inv (X.suite a (X.pn ++ pins)) [] σ' (upd H' a (ExH cls d a)) { s' with heap := h4 } := inv_suite K4
      refine store_ok (X := X.suite a (X.pn ++ pins)) (v := .ref a) S4 hN hi hloc rfl (fun s5 S5 => ?_) (.inr hln)
      refine wpAny_mono ((hsu a (X.pn ++ pins)).run [] s5 _ _ _ S5 (hyes rfl a na)) (fun f s6 hsp => ?_) (fun _ _ z => False.elim z)
      have end_ : ∀ {σ6 : L2.St} {H6 : Hp} {Q : Shared → Prop}, Inv (X.suite a (X.pn ++ pins)) [] σ6 H6 s6 → (∀ s7, Inv X pins (σ6.set i none) H6 s7 → Q s7) →
          wpAny (model X.prog X.w) X.A (do bindName X.env n .none; unbindBehindTheSuite X.env n pos') (fun _ s7 => Q s7) X.xe s6 := fun {σ6 H6 Q} S6 hq => gone_ok (inv_unsuite S6 ok) hN hi hln hq
      cases f with
      | next =>
        obtain ⟨σ6, H6, S6, q6⟩ := hsp
        exact end_ S6 fun s7 J7 => ⟨_, _, J7, q6⟩
      | brk =>
        obtain ⟨σ6, H6, S6, q6⟩ := hsp
        exact end_ S6 fun s7 J7 => ⟨_, _, J7, q6⟩
      | cont =>
        obtain ⟨σ6, H6, S6, q6⟩ := hsp
        exact end_ S6 fun s7 J7 => ⟨_, _, J7, q6⟩
      | ret u =>
        obtain ⟨v6, σ6, H6, S6, r6, q6⟩ := hsp
        exact end_ S6 fun s7 J7 => ⟨_, _, _, J7, r6, q6⟩
    | false =>
      show wpAny _ X.A (handleBy (.ref a) X.env []) _ _ _
      refine wpAny_handleBy_nil ?_
      obtain ⟨k1, k2, k3, oe, vs, T, oT, ts', he, hz, hd, h1, hr⟩ := id fl3
      unfold PySem.passOn
      refine wpAny_bind (wpAny_field he hd h1 ?_)
      rw [if_neg (show ¬ ((Value.ref T == Value.none) = true) from by simp)]
      have fin : wpAny (model X.prog X.w) X.A (setFlight (.ref a) X.env.frame) (fun _ s4 => wpAny (model X.prog X.w) X.A (throw (.ref a) : Sem Flow) (SP X pins D) X.xe s4) X.xe { s' with heap := h3 } := by
        rw [hf]
        refine HandSPX.setFlight_upZ fl3 fun h4 hh4 up4 => wpAny_throw (tk _ _ ?_)
        exact ⟨a, B, sI, pins, σ', H', cls, d, rfl, J, nb, (up.trans up3).trans up4, .inr (.inr (by rw [hs]; exact hh4)), na, os, ag, hno rfl⟩
      first
        | exact wpAny_bind (wpAny_pure (wpAny_bind fin))
        | exact wpAny_bind fin
  · cases f with
    | next =>
      obtain ⟨σ', H', J', q⟩ := hsp
      exact wpAny_execs_nil ⟨σ', H', J'.ofTry ok, q⟩
    | brk =>
      obtain ⟨σ', H', J', q⟩ := hsp
      exact ⟨σ', H', J'.ofTry ok, q⟩
    | cont =>
      obtain ⟨σ', H', J', q⟩ := hsp
      exact ⟨σ', H', J'.ofTry ok, q⟩
    | ret u =>
      obtain ⟨v, σ', H', J', r, q⟩ := hsp
      exact ⟨v, σ', H', J'.ofTry ok, r, q⟩
/-- isinstance(e, c), e a kept exception -/
def rIsH (K : PySem.W.Frag) : List V → Hp → VK → Prop := fun xs H Q => ∃ (a D : Addr) (cl : V) (cv : Value) (b : Bool), xs = [.ref a, cl] ∧ H a = some (ExH (.ref D) none a) ∧ ExcC K D ∧ ClsV cl cv ∧ PySem.W.kitOne K (.ref D) cv = some b ∧ Q (.bl b) H
theorem isH (K : PySem.W.Frag) (h : X.K = K := by rfl) : CallR X (.builtin "isinstance") (rIsH K) := by
  subst h
  intro pins s σ H xs us Q I r h
  obtain ⟨a, D, cl, cv, b, rfl, ha, C, k, e, q⟩ := h
  obtain ⟨u1, u2, rfl, r1, r2⟩ := vals2 r
  have e2 := k.eq r2
  subst e2
  cases r1
  obtain ⟨⟨oe, vs, hget, hz, hv⟩, _, _⟩ := I.hok a _ ha
  have J : PySem.W.InstAt s.heap a oe D none := by
    obtain ⟨oc, od, oda, osl⟩ := oe
    obtain ⟨h1, h2⟩ := hz
    dsimp only at h1 h2 hv
    subst h1 h2 hv
    exact ⟨hget, rfl, rfl, trivial⟩
  exact PySem.W.kia_one (PySem.W.handS_kitx_exc C.hg C.hk C.hs C.hd C.ha C.hn C.ht C.hm) I.kIn J e (fun z => nomatch z) fun tk => ⟨.bl b, H, I.kept (t' := tk) fun _ _ z => z, rfl, q⟩
end
end Oa
namespace Oa
open PySem PySem.Spec PyProof.Rows L2
/-! ### a list comprehension whose item's call may raise -/
section
variable {M : Model} {A : Around} {E : Value → Shared → Prop} {s : Shared} {env : Env}
def lcPost (M : Model) (A : Around) (E : Value → Shared → Prop) (Q : Value → Shared → Prop) (acc : Value) (ce : Env) (r : Result) (s' : Shared) : Prop := match r with
  | .ok _ => ∃ m, s'.heap.Ns ce.locals m ∧ ∀ h', Heap.SameBut ce.locals s'.heap h' → Q acc { s' with heap := h' }
  | .error x => ∃ m, s'.heap.Ns ce.locals m ∧ ∀ h', Heap.SameBut ce.locals s'.heap h' → wpAny M A (passOn "comprehension.variables-let-go" x ce : Sem Value) (fun _ _ => False) E { s' with heap := h' }
theorem comp_run {e : Expr} {scope : Scope} {pos : Pos} {newAcc first : Sem Value} {g : Comprehension} {gs : List Comprehension} {cl : List (Str × Addr)} {Q : Value → Shared → Prop} (hcl : clausesOf e = g :: gs) (hs : ∀ x, foldedSetIterable g.iter env x = pure x) (hclos : closureFor scope env = pure cl)
    (hkind : scope.kind = .function) (hnames : ∀ x ∈ scope.names, x.2 = .local → scope.names.lookup x.1 = some .local)
    (h : wpAny M A first (fun x t1 => wpAny M A (pyIter x) (fun it t2 => wpAny M A newAcc (fun acc t3 => wpAny M A (newFunctionEnv scope env.globals cl [] env.qual none .none (some env)) (fun cv t4 =>
      codeAny M A (.compStart e 0 it acc { cv with scope := relabel scope env }) (lcPost M A E Q acc { cv with scope := relabel scope env }) t4) E t3) E t2) E t1) E s) :
    wpAny M A (comprehension e scope env pos newAcc false first none) Q E s := by
  unfold comprehension
  rw [hclos, hcl]
  refine wpAny_bind (wpAny_mono h (fun x0 t1 k1 => ?_) fun _ _ z => z)
  refine wpAny_bind (wpAny_standAt (wpAny_bind (wpAny_of_eq (hs x0) ?_)))
  refine wpAny_bind (wpAny_holding (wpAny_mono k1 (fun it t2 k2 => ?_) fun _ _ z => z))
  refine wpAny_standIf (wpAny_bind (wpAny_mono k2 (fun acc t3 k3 => ?_) fun _ _ z => z))
  refine wpAny_bind (wpAny_pure (wpAny_bind (wpAny_mono k3 (fun cv t4 k4 => ?_) fun _ _ z => z)))
  dsimp only
  have own : ∀ y ∈ (scope.names.filter fun x => (x.2 == .local || x.2 == .cell) && x.1 != (".0" : Str)).reverse, y.2 = .local → Env.kindOf { cv with scope := relabel scope env } y.1 = some .local :=
    fun y hy hl => lookup_relabel_local (hnames y (List.mem_filter.mp (List.mem_reverse.mp hy)).1 hl)
  refine wpAny_holding (wpAny_bind (wpAny_attempt (wpAny_holding (wpAny_run (codeAny_mono k4 fun r t5 hr => ?_)))))
  cases r with
  | ok f =>
    obtain ⟨m, hn, hr⟩ := hr
    exact wpAny_bind (wpAny_holding (wpAny_comp_letGo (cenv := { cv with scope := relabel scope env }) hkind _ t5 m own hn fun h' m' _ hs' => wpAny_pure (hr h' hs')))
  | error x =>
    obtain ⟨m, hn, hr⟩ := hr
    exact wpAny_bind (wpAny_holding (wpAny_comp_letGo (cenv := { cv with scope := relabel scope env }) hkind _ t5 m own hn fun h' m' _ hs' => wpAny_mono (hr h' hs') (fun _ _ f => f.elim) fun _ _ y => y))
end
/-- what the block lets out: an exception of a call -/
def XB (X Y : Cx) (E : XK) : Value → Shared → Prop := fun u s' => ∃ pins σ H s, Inv Y pins σ H s ∧ L2.CX X.prog X.w X.stack H s E u s'
abbrev blkX (X : Cx) (s : Shared) (H : Hp) (scope : Scope) (ce : Env) (fp : List Addr) (E : XK) : Cx := { X.blk s H scope ce fp with xe := XB X (X.blk s H scope ce fp) E }
section
variable {X : Cx} {s : Shared} {H : Hp} {scope : Scope} {ce : Env} {fp : List Addr} {E : XK}
theorem inv_toX {pins : List (Addr × Obj)} {σ : L2.St} {H1 : Hp} {s1 : Shared} (I : Inv (X.blk s H scope ce fp) pins σ H1 s1) : Inv (blkX X s H scope ce fp E) pins σ H1 s1 :=
  have o := I.ok
  ⟨⟨o.mod, o.kind, o.glob, o.blt, o.above, o.inj, o.has, o.cab, o.hd, o.frames, o.stk, o.exf, o.bs, o.bsz, o.noex, o.exfs, o.funs, o.frf⟩, I.os, I.bare, I.base, I.loc, I.cell, I.free, I.freeC, I.pin, I.hok, I.len⟩
theorem inv_ofX {pins : List (Addr × Obj)} {σ : L2.St} {H1 : Hp} {s1 : Shared} (I : Inv (blkX X s H scope ce fp E) pins σ H1 s1) : Inv (X.blk s H scope ce fp) pins σ H1 s1 :=
  have o := I.ok
  ⟨⟨o.mod, o.kind, o.glob, o.blt, o.above, o.inj, o.has, o.cab, o.hd, o.frames, o.stk, o.exf, o.bs, o.bsz, o.noex, o.exfs, o.funs, o.frf⟩, I.os, I.bare, I.base, I.loc, I.cell, I.free, I.freeC, I.pin, I.hok, I.len⟩
theorem passX {σ : L2.St} : PassesAt (L2.CX X.prog X.w) (blkX X s H scope ce fp E) σ E := fun pins H' s' e s'' I c => ⟨pins, σ, H', s', inv_ofX I, c⟩
end
theorem frames_move {h1 h2 B B2 : Heap} : ∀ {l : List Env}, h1.FunFrames B l → (∀ L ∈ frs l, h2.get? L = h1.get? L ∧ B2.get? L = none) → h2.FunFrames B2 l
  | [], _, _ => trivial
  | e :: l, hf, k => by
    obtain ⟨hk, ⟨L, o, hL, _, ho, hd⟩, hr⟩ := hf
    have hm : L ∈ frs (e :: l) := List.mem_filterMap.mpr ⟨e, List.mem_cons_self, hL⟩
    exact ⟨hk, ⟨L, o, hL, (k L hm).2, (k L hm).1.trans ho, hd⟩, frames_move hr fun b hb => k b (by
      obtain ⟨e', he', q⟩ := List.mem_filterMap.mp hb
      exact List.mem_filterMap.mpr ⟨e', List.mem_cons_of_mem _ he', q⟩)⟩
section
variable {X : Cx}
/-- the exception, from inside the block out to the def -/
theorem lcX_err {pins : List (Addr × Obj)} {σ : L2.St} {H3 : Hp} {s3 : Shared} {scope : Scope} {ce : Env} {fp : List Addr} {E : XK} {Q : Value → Shared → Prop} {acc : Value} (hst : X.stack = X.env :: X.outer) (hfr : X.env.frame = some X.env.locals) (tk : Takes X (fun cls d _ H => E cls d H))
    (I3 : Inv X pins σ H3 s3) (f3 : ∀ b ∈ fp, FpOk X pins H3 b) (cL : ce.locals = s3.heap.objs.size) (cF : ce.frame = X.env.frame) {u : Value} {s' : Shared} (x : XB X (X.blk s3 H3 scope ce fp) E u s') :
    notedBy (model X.prog X.w) X.A ce (fun e t => lcPost (model X.prog X.w) X.A X.xe Q acc ce (.error e) t) u s' := by
  obtain ⟨pB, σB, HB, sB, IB, cx⟩ := x
  obtain ⟨a, B, H', cls, d, rfl, fl, hokB, ub, na, os, ag, hE⟩ := cx
  have en : noteFrame (.ref a) ce = noteFrame (.ref a) X.env := by
    unfold noteFrame PySem.frameOf
    rw [cF]
  have hfA : X.A.frames = some (X.env :: X.outer) := by rw [I3.ok.frames, hst]
  show wpAny _ _ (noteFrame (.ref a) ce) _ _ s'
  rw [en]
  have fl' := fl
  rw [hst] at fl'
  refine HandSPX.looks_onZ Zc.steady hfA hfr fl' fun h1 held up1 => ?_
  have nC : ce.locals ∉ frs X.stack := fun hm => by
    rcases List.mem_cons.mp (I3.stkSub _ hm) with z | z
    · have := I3.lt
      rw [← z, cL] at this
      exact Nat.lt_irrefl _ this
    · exact I3.nofs (Nat.le_of_eq cL.symm) z
  have lowC : ∀ b o, s3.heap.get? b = some o → b ≠ ce.locals := fun b o e z => by
    have := Heap.lt_size e
    rw [z, cL] at this
    exact Nat.lt_irrefl _ this
  obtain ⟨m, ⟨oc, es, ep, hoc, rc⟩, _⟩ := IB.loc
  have hoc : sB.heap.get? ce.locals = some oc := hoc
  have hHC : HB ce.locals = none := IB.free
  have hBC : B.get? ce.locals = some oc := ub.keep _ _ hoc hHC nC
  have hH'C : H' ce.locals = none := ub.free _ _ hoc hHC
  obtain ⟨k1, k2, k3, oe, vs, T, oT, ts, he1, hz, hd, hv1, hBT, hTa, hT, hdT, hf3⟩ := held
  refine ⟨m, ⟨oc, es, ep, k1 _ _ hBC, rc⟩, fun h2 sb => ?_⟩
  have sb2 : ∀ b, b ≠ ce.locals → h2.get? b = h1.get? b := sb.2
  have naC : a ≠ ce.locals := fun z => by rw [z, hBC] at k2; cases k2
  have nTC : T ≠ ce.locals := fun z => by rw [z, hBC] at hBT; cases hBT
  obtain ⟨B2, b1, b2⟩ := restrict h2 fun b => (B.get? b).isSome
  have st2 : B2.StaysIn h2 := fun b o e => by
    cases q : (B.get? b).isSome with
    | true => rw [← b1 b q]; exact e
    | false => rw [b2 b q] at e; cases e
  have inB : ∀ b o, b ≠ ce.locals → B.get? b = some o → B2.get? b = some o := fun b o hb e => by
    rw [b1 b (by rw [e]; rfl), sb2 b hb]
    exact k1 b o e
  have noB : ∀ b, B.get? b = none → B2.get? b = none := fun b e => b2 b (by rw [e]; rfl)
  have frB : ∀ b ∈ frs X.stack, B.get? b = none := fun b hb => (fl.2.2.1.mem hb).1
  have ff2 : h2.FunFrames B2 (X.env :: X.outer) := frames_move k3 fun L hL => by
    rw [← hst] at hL
    exact ⟨sb2 L fun z => nC (z ▸ hL), noB L (frB L hL)⟩
  have tr2 : HandSPX.TracedZ h2 B2 a (Zc cls d) (rawInt X.env.locals) := ⟨oe, vs, T, oT, ts, (sb2 a naC).trans he1, hz, hd, hv1, noB T hBT, hTa, (sb2 T nTC).trans hT, hdT, hf3⟩
  have fin : wpAny (model X.prog X.w) X.A (setFlight (.ref a) ce.frame) (fun _ t => wpAny (model X.prog X.w) X.A (throw (.ref a) : Sem Value) (fun _ _ => False) X.xe t) X.xe { s' with heap := h2 } := by
    rw [cF, hfr]
    refine HandSPX.setFlight_anyZ (base := B2) (l := X.env :: X.outer) st2 ff2 tr2 fun h4 c1 c2 c3 up4 => wpAny_throw (tk _ _ ?_)
    obtain ⟨G, g1, g2⟩ := restrict h4 fun b => (B2.get? b).isSome || decide (b ∈ frs X.stack)
    have inG : ∀ b o, B2.get? b = some o → G.get? b = some o := fun b o e => by
      rw [g1 b (by simp [e])]
      exact c1 b o e
    have gF : ∀ b, b ∈ frs X.stack → G.get? b = h4.get? b := fun b hb => g1 b (by simp [hb])
    have og : ∀ b o, G.get? b = some o → h4.get? b = some o ∧ ((B2.get? b).isSome = true ∨ b ∈ frs X.stack) := fun b o e => by
      cases q : ((B2.get? b).isSome || decide (b ∈ frs X.stack)) with
      | false => rw [g2 b q] at e; cases e
      | true =>
        rw [g1 b q] at e
        exact ⟨e, by simpa [Bool.or_eq_true] using q⟩
    have old : ∀ b o, s3.heap.get? b = some o → B.get? b = some o → G.get? b = some o := fun b o e q => inG b o (inB b o (lowC b o e) q)
    -- the frames
    have frG : ∀ b o, s3.heap.get? b = some o → b ∈ frs X.stack → b ∉ fp → ∃ sl, G.get? b = some { o with slots := sl } := fun b o e hb hx => by
      have n3 := I3.stkFree b hb
      obtain ⟨_, o3, e3, hnf⟩ := I3.stack.mem hb
      rw [e] at e3
      cases e3
      obtain ⟨sl1, e1⟩ := IB.base.slot b o e n3 hb hx
      obtain ⟨sl2, e2⟩ := ub.slot b _ e1 hb
      obtain ⟨sl3, e4⟩ := up1 b _ e2 hnf
      have e5 := (sb2 b fun z => nC (z ▸ hb)).trans e4
      obtain ⟨sl4, e6⟩ := up4 b _ e5 hnf
      exact ⟨sl4, by rw [gF b hb]; exact e6⟩
    have un : Un (frs X.stack) fp H3 H' s3.heap G := by
      refine ⟨fun b o e n hb hx => ?_, fun b o e n hb hx => frG b o e hb hx, fun b o e n hx => ?_, fun b o e hx => ?_, fun b ys q => ub.tups b ys (IB.base.tups b ys q), fun b o y q => ub.frzs b o y (IB.base.frzs b o y q), fun b ps q => ?_⟩
      · exact old b o e (ub.keep b o (IB.base.keep b o e n hb hx) (IB.base.free b o e n hx) hb)
      · obtain ⟨o1, e1⟩ := IB.base.there b o e hx
        exact ub.free b o1 e1 (IB.base.free b o e n hx)
      · by_cases hb : b ∈ frs X.stack
        · obtain ⟨sl, q⟩ := frG b o e hb hx
          exact ⟨_, q⟩
        · obtain ⟨o1, e1⟩ := IB.base.there b o e hx
          obtain ⟨o2, e2⟩ := ub.there b o1 e1 hb
          exact ⟨o2, inG b o2 (inB b o2 (lowC b o e) e2)⟩
      · obtain ⟨m1, q1⟩ := IB.base.tbls b ps q
        obtain ⟨m2, q2⟩ := ub.tbls b _ q1
        exact ⟨m1 ++ m2, by rw [q2, Array.append_assoc]⟩
    have hok : HOk X.prog X.w H' G := fun b o q => (hokB b o q).stay (fun c v hc r => by
      have hne : c ≠ ce.locals := fun z => by
        rcases hc with hc | hc
        · rw [← hc, z, hH'C] at q; cases q
        · rw [z, hH'C] at hc; cases hc
      exact inG c v (inB c v hne r)) (fun _ r => r) fun _ _ r => r
    have J : Inv X pins σ H' { s3 with heap := G, gens := s'.gens, drawn := s'.drawn, toks := s'.toks } :=
      I3.call (ch := fp) un hok ag fun b hb => ⟨(f3 b hb).2.2.2.1, (f3 b hb).2.1, (f3 b hb).2.2.2.2.1, (f3 b hb).2.2.2.2.2⟩
    refine ⟨a, B2, _, pins, σ, H', cls, d, rfl, J, fun b o e hb => ?_, Heap.UpToSlots.of_keeps fun b o e => (og b o e).1, .inr (.inr (by rw [hst]; exact ⟨c1, noB a k2, c2, c3⟩)), na, os.trans IB.os, ag, hE⟩
    obtain ⟨e', hq⟩ := og b o e
    rcases hq with hq | hq
    · obtain ⟨o', q⟩ := Option.isSome_iff_exists.mp hq
      have z := c1 b o' q
      rw [e'] at z
      cases z
      exact q
    · exact absurd hq hb
  unfold PySem.passOn
  refine wpAny_bind (wpAny_field ((sb2 a naC).trans he1) hd hv1 ?_)
  rw [if_neg (show ¬ ((Value.ref T == Value.none) = true) from by simp)]
  first
    | exact wpAny_bind (wpAny_pure (wpAny_bind fin))
    | exact wpAny_bind fin
/-- [elt for name in iter], elt's calls may raise -/
theorem pe_lcX (E : XK) {elt tg iter : Expr} {scope : Scope} {own : List (Str × Nat)} {pos : Pos} {wi : TI} {g : TG} {te : TE} (hst : X.stack = X.env :: X.outer) (hfr : X.env.frame = some X.env.locals) (tk : Takes X (fun cls d _ H => E cls d H)) (hc : X.calm = true) (hN : X.N.Nodup) (hi : PI X tg iter wi) (ok : BlkOk X.N X.env.scope scope own)
    (hg : ∀ (s : Shared) (H : Hp) (C : Addr) (cl : List (Str × Addr)) (fp : List Addr), PG (X.blk s H scope (compEnvC scope cl C X.env) fp) tg g)
    (he : ∀ (s : Shared) (H : Hp) (C : Addr) (cl : List (Str × Addr)) (fp : List Addr), PE (blkX X s H scope (compEnvC scope cl C X.env) fp E) elt te) (hs : ∀ x, foldedSetIterable iter X.env x = pure x := by intro _; rfl) :
    PE X (.ListComp elt [⟨tg, iter, [], 0⟩] scope pos) (tLc wi g tYes te (own.map (·.2))) := by
  refine ⟨fun pins s σ H Q I h => ?_⟩
  rw [eval_ListComp]
  have hfree : ∀ y ∈ scope.names, y.2 = .free → ∃ c, X.env.cells.lookup y.1 = some c := fun y hy e => (ok.free y hy e).elim (fun k => I.ok.has _ (.inl k)) fun k => I.ok.has _ (.inr k)
  refine comp_run rfl hs (closure_ok hfree) ok.kind (fun y hy e => (ok.uniq y hy).trans (by rw [e])) (thn (hi.run pins s σ H _ I h) fun xv s1 hx => thn hx fun itv s2 h2 => ?_)
  obtain ⟨it, fp, tn, J, H2, rfl, I2, T, st2, f2, q⟩ := h2
  refine wpAny_newObj_type (newEnv_comp ?_) (by show 0 ≤ sizeLine; decide)
  obtain ⟨D, hD⟩ : ∃ D, D = s2.heap.objs.size := ⟨_, rfl⟩
  obtain ⟨W, ⟨m0, w0⟩, turn⟩ := q D (I2.hok.fresh (Nat.le_of_eq hD.symm))
  obtain ⟨s3, hs3⟩ : ∃ s3 : Shared, s3 = { s2 with heap := s2.heap.push { cls := .type "list", data := .seq ([] : List Value).toArray } } := ⟨_, rfl⟩
  have hp3 : s3.heap = s2.heap.push { cls := .type "list", data := .seq ([] : List Value).toArray } := by rw [hs3]
  have I3 : Inv X pins σ (upd H2 D (.lst [])) s3 := by
    rw [hs3]
    refine I2.laid (t' := s2.toks) (fun b o e => Heap.get?_push_of_some _ e) (Nat.le_of_eq hD.symm) ⟨Nat.zero_le _, [], 0, .nil, ?_⟩
    rw [hD]
    exact Heap.get?_push_size _ rfl
  have low : ∀ b ∈ fp, b < s2.heap.objs.size := fun b hb => let ⟨_, e, _⟩ := T.obj _ _ st2 b hb; Heap.lt_size e
  have f3 : ∀ b ∈ fp, FpOk X pins (upd H2 D (.lst [])) b ∧ b < s3.heap.objs.size := fun b hb => by
    have hlt := low b hb
    refine ⟨⟨?_, (f2 b hb).2⟩, by rw [hp3, Heap.size_push]; exact Nat.lt_succ_of_lt hlt⟩
    rw [upd_ne (by rw [hD]; exact Nat.ne_of_lt hlt)]
    exact (f2 b hb).1
  have st3 : tn 0 s3.heap := T.keep _ _ _ st2 fun b _ o e => by rw [hp3]; exact Heap.get?_push_of_some _ e
  have I4 := block_start I3 ok hN f3
  have pg := hg s3 (upd H2 D (.lst [])) s3.heap.objs.size (cellsFrom (s3.heap.objs.size + 1) scope.names (cloFrom X.env.cells scope.names [])) fp
  have pe := he s3 (upd H2 D (.lst [])) s3.heap.objs.size (cellsFrom (s3.heap.objs.size + 1) scope.names (cloFrom X.env.cells scope.names [])) fp
  rw [← hs3, ← hD]
  show codeAny _ _ (.compStart (.ListComp elt [⟨tg, iter, [], 0⟩] scope pos) 0 (.ref it) (.ref D) (compEnvC scope (cellsFrom (s3.heap.objs.size + 1) scope.names (cloFrom X.env.cells scope.names [])) s3.heap.objs.size X.env)) (lcPost (model X.prog X.w) X.A X.xe (EP X pins σ Q) (.ref D) (compEnvC scope (cellsFrom (s3.heap.objs.size + 1) scope.names (cloFrom X.env.cells scope.names [])) s3.heap.objs.size X.env)) { s3 with heap := pushCells (s3.heap.push { cls := .type "dict", data := .dict #[] }) scope.names }
  have nfp : ∀ b ∈ fp, (upd H2 D (.lst [])) b = none := fun b hb => (f3 b hb).1.1
  generalize hce : compEnvC scope (cellsFrom (s3.heap.objs.size + 1) scope.names (cloFrom X.env.cells scope.names [])) s3.heap.objs.size X.env = ce at I4 pg pe ⊢
  have cL : ce.locals = s3.heap.objs.size := by subst hce; rfl
  have cF : ce.frame = X.env.frame := by subst hce; rfl
  generalize upd H2 D (.lst []) = H3 at I3 I4 pg pe w0 nfp f3
  generalize hs4 : ({ s3 with heap := pushCells (s3.heap.push { cls := .type "dict", data := .dict #[] }) scope.names } : Shared) = s4 at I4 ⊢
  have st4 : tn 0 s4.heap := T.keep _ _ _ st3 fun b _ o e => by rw [← hs4]; exact pushCells_keeps _ _ _ _ (Heap.get?_push_of_some _ e)
  have stat : ∀ {σ' : L2.St} {H' : Hp} {s' : Shared}, Inv (X.blk s3 H3 scope ce fp) [] σ' H' s' → (∀ b ∈ fp, H' b = none) → ∀ b ∈ fp, FpOk (X.blk s3 H3 scope ce fp) [] H' b := fun {σ' H' s'} J' hn b hb =>
    ⟨hn b hb, (J'.ok.exf b hb).1, J'.ok.exfs b hb, .inl hb, fun x c e => (J'.ok.exf b hb).2 x c e, fun p hp => absurd (show p ∈ ([] : List (Addr × Obj)) ++ [] from hp) (by simp)⟩
  have loop : codeAny (model X.prog X.w) X.A (.compLoop (.ListComp elt [⟨tg, iter, [], 0⟩] scope pos) 0 (.ref it) (.ref D) ce) (lcPost (model X.prog X.w) X.A X.xe (EP X pins σ Q) (.ref D) ce) s4 := by
    refine compLoop_any (fun n t => ∃ i Ht, Inv (X.blk s3 H3 scope ce fp) [] (wipe σ (own.map (·.2))) Ht t ∧ tn i t.heap ∧ (∀ b ∈ fp, Ht b = none) ∧ W i n Ht) ?_ m0 ⟨0, H3, I4, st4, nfp, w0⟩
    rintro n s5 ⟨i, H5, I5, st5, n5, w5⟩
    rcases turn i n H5 w5 with ⟨stop, qq⟩ | ⟨go, Nx, hNx, step⟩
    · refine thnF (T.done (X.blk s3 H3 scope ce fp) rfl rfl rfl hc i [] s5 _ H5 (fun _ _ => False) I5 (stat I5 n5) st5 stop) fun r s6 ⟨hr, I6⟩ => ?_
      subst hr
      have I7 : Inv X pins σ H5 s6 := I3.call' (ch := fp) I6.os I6.base I6.hok I6.bare fun b hb => ⟨(f3 b hb).1.2.2.2.1, (f3 b hb).1.2.1, (f3 b hb).1.2.2.2.2.1, (f3 b hb).1.2.2.2.2.2⟩
      have nC : H5 ce.locals = none := I6.free
      obtain ⟨m, hn, _⟩ := I6.loc
      refine ⟨m, hn, fun h' sb => ?_⟩
      obtain ⟨f0, f1, _, g3, g4, g5⟩ := I3.fpOk (H' := H5) (Nat.le_of_eq cL.symm) nC
      exact ⟨.ref D, H5, I7.turned (t' := s6.toks) (fun b o hb e => (sb.2 b hb).trans e) f0 f1 g3 g4 g5, rfl, qq⟩
    · refine thnF (T.item (X.blk s3 H3 scope ce fp) rfl rfl rfl hc i [] s5 _ H5 (fun _ _ => False) I5 (stat I5 n5) st5 go) fun r s6 ⟨u, hr, h6⟩ => ?_
      subst hr
      refine thnF h6 fun _ s7 ⟨x, H7, I7, r7, y7, st7, n7⟩ => ?_
      have I7' := I7.pinned (stat I7 n7) (T.obj _ _ st7)
      refine thnF (pg.run _ s7 _ H7 x u _ I7' r7 (step x H7 y7)) fun _ s8 ⟨σ8, H8, I8, hw8, q8⟩ => ?_
      refine wpAny_tests_nil ?_
      have q8 : te σ8 H8 fun y H4 => ∃ acc, H4 D = some (.lst acc) ∧ acc.length < sizeLine ∧ Nx (upd H4 D (.lst (acc ++ [y]))) := by
        unfold tYes at q8
        dsimp only at q8
        rw [if_pos rfl] at q8
        exact q8
      rw [if_pos rfl]
      have done : ∀ {s' : Shared} {H' : Hp}, Inv (X.blk s3 H3 scope ce fp) ([] ++ pinsAt fp s7.heap) σ8 H' s' → Nx H' → ∃ m, m < n ∧ ∃ i H', Inv (X.blk s3 H3 scope ce fp) [] (wipe σ (own.map (·.2))) H' s' ∧ tn i s'.heap ∧ (∀ b ∈ fp, H' b = none) ∧ W i m H' := fun {s' H'} J' nx => by
        obtain ⟨m', hm, w'⟩ := hNx H' nx
        have pin' : ∀ b ∈ fp, ∀ o, s7.heap.get? b = some o → s'.heap.get? b = some o ∧ H' b = none := fun b hb o e =>
          have z := J'.pin (b, o) (List.mem_append_right _ (List.mem_append_right _ (mem_pinsAt hb e)))
          ⟨z.1, z.2.1⟩
        have hl : (wipe σ (own.map (·.2))).length = σ8.length := by rw [← hw8, wipe_length]
        refine ⟨m', hm, i + 1, H', (J'.unpinned (pins := [])).weak hl (fun j v e => ?_), T.keep _ _ _ st7 fun b hb o e => (pin' b hb o e).1, fun b hb => ?_, w'⟩
        · rw [← hw8] at e
          exact (wipe_some e).1
        · obtain ⟨o, e, _⟩ := T.obj _ _ st7 b hb
          exact (pin' b hb o e).2
      refine wpAny_mono (pe.run _ s8 σ8 H8 _ (inv_toX I8) q8) (fun z s10 hz => ?_) (fun e t ht => ?_)
      · obtain ⟨yv, H10, I10, r10, acc, hD10, hz10, nx⟩ := hz
        exact app_ok (X := X.blk s3 H3 scope ce fp) (inv_ofX I10) hD10 hz10 r10 fun s11 I11 => done I11 nx
      · exact lcX_err hst hfr tk I3 (fun b hb => (f3 b hb).1) cL cF ht
  exact codeAny_compStart_list loop (T.self X.A 0 _ _ _ st4 loop)
end
end Oa
namespace Oa
open PySem PySem.Spec PyProof.Rows L2
/-! ### a dict of the module with text keys, walked -/
structure KTab (K : PySem.W.Frag) (w : World) (d : Addr) (ks : List Str) : Prop where
  ex : ∃ es n, KDict K w d es n ∧ es.toList.map He.keyOf = He.keysIn w.params ks
  nd : ks.Nodup
def ItKD (ks : List Str) : It := ⟨fun i _ => i < ks.length, fun i H x H' => H' = H ∧ ∃ k, ks[i]? = some k ∧ x = .str k, fun i _ => ks.length ≤ i⟩
theorem pairs_of {P : Program} {w : World} : ∀ {es : List DictEntry} {ks : List Str}, es.map He.keyOf = He.keysIn w.params ks → Pairs (strKind P w) es (ks.zip (es.map (·.val)))
  | [], [], _ => .nil
  | [], _ :: _, h => by cases h
  | _ :: _, [], h => by cases h
  | e :: es, k :: ks, h => by
    have h1 : He.keyOf e :: es.map He.keyOf = some (k, PyData.keyHash w.params k) :: He.keysIn w.params ks := h
    injection h1 with h2 h3
    refine .cons ?_ rfl (pairs_of h3)
    unfold He.keyOf at h2
    split at h2
    · rename_i x t q
      obtain ⟨h5, _⟩ := Prod.mk.inj (Option.some.inj h2)
      show (strKind P w).is k e.key = true
      rw [q, ← h5]
      exact strKind_is P w x t
    · cases h2
theorem len_of {P : Params} {es : List DictEntry} {ks : List Str} (h : es.map He.keyOf = He.keysIn P ks) : es.length = ks.length := by
  have := congrArg List.length h
  rw [List.length_map] at this
  unfold He.keysIn at this
  rw [List.length_map] at this
  exact this
theorem kd_at {X : Cx} {pins : List (Addr × Obj)} {σ : L2.St} {H : Hp} {s : Shared} {d : Addr} {es : Array DictEntry} {n : Nat} {ks : List Str} (I : Inv X pins σ H s) (D : KDict X.K X.w d es n) (hk : es.toList.map He.keyOf = He.keysIn X.w.params ks) (nd : ks.Nodup) :
    s.heap.DictAt (strKind X.prog X.w) d (ks.zip (es.toList.map (·.val))) n := by
  refine ⟨_, es, I.kIn _ _ D.at_, ⟨rfl, rfl, rfl⟩, rfl, fun e he => ?_, pairs_of hk, ?_⟩
  · obtain ⟨x, t, e1, e2⟩ := D.lit.all e (Array.mem_toList_iff.mpr he)
    exact ⟨x, by rw [e1]; exact strKind_is _ _ x t, e2⟩
  · rw [List.map_fst_zip (by rw [List.length_map, len_of hk]; exact Nat.le_refl _)]
    exact nd
section
variable {P : Program} {w : World} {K : PySem.W.Frag} {tg : Expr} {d : Addr} {es : Array DictEntry} {n : Nat} {ks : List Str}
theorem turn_kd (it : Addr) (D : KDict K w d es n) (hk : es.toList.map He.keyOf = He.keysIn w.params ks) (nd : ks.Nodup) : Turn P w K tg (ItKD ks) [it] it (fun i h => h.IsKeyIter it d i ks.length n) where
  mem := by simp
  obj := fun i h st b hb => by
    obtain rfl : b = it := by simpa using hb
    obtain ⟨oi, e, c, dd⟩ := st
    exact ⟨oi, e, fun v z => by rw [dd] at z; cases z⟩
  keep := fun i h h' st k => by
    obtain ⟨oi, e, c⟩ := st
    exact ⟨oi, k it (by simp) oi e, c⟩
  item := by
    intro X hP hw hK hc i pins s σ H E I hf st hg
    subst hP hw hK
    obtain ⟨f0, f1, f2, f3, f4, f5⟩ := hf it (by simp)
    have hm := kd_at I D hk nd
    have hl : (ks.zip (es.toList.map (·.val))).length = ks.length := by
      rw [List.length_zip, List.length_map, len_of hk, Nat.min_self]
    have hi : i < ks.length := hg
    have hz : (ks.zip (es.toList.map (·.val)))[i]? = some ((ks.zip (es.toList.map (·.val)))[i]'(by rw [hl]; exact hi)) := List.getElem?_eq_getElem _
    have hki : ks[i]? = some ks[i] := List.getElem?_eq_getElem hi
    generalize hkv : (ks.zip (es.toList.map (·.val)))[i]'(by rw [hl]; exact hi) = kv at hz
    obtain ⟨k, v⟩ := kv
    have ek : ks[i] = k := by
      rw [List.getElem_zip] at hkv
      exact congrArg Prod.fst hkv
    rw [← hl] at st
    refine wpAny_pyNext_dict_item st hm hz fun key h' hkey st' sb => ?_
    have I1 : Inv X pins σ H { s with heap := h' } := I.turned (t' := s.toks) (fun b ob hb e => (sb.2 b hb).trans e) f0 f1 f3 f4 f5
    obtain ⟨oi, e, c, dd⟩ := id st'
    obtain ⟨t, rfl⟩ := Value.isStrOf_shape (show Value.isStrOf k key = true from hkey)
    refine ⟨_, rfl, go_of (s := { s with heap := h' }) e c dd (by decide) ⟨.str k, H, I1, ⟨t, rfl⟩, ⟨rfl, k, by rw [hki, ek], rfl⟩, ?_, fun b hb => (hf b hb).1⟩⟩
    show h'.IsKeyIter it d (i + 1) ks.length n
    rw [← hl]
    exact st'
  done := by
    intro X hP hw hK hc i pins s σ H E I hf st hg
    subst hP hw hK
    obtain ⟨f0, f1, f2, f3, f4, f5⟩ := hf it (by simp)
    have hsz : es.size = ks.length := by rw [← len_of hk, Array.length_toList]
    exact next_key_end (I.ok.hd hc) st (I.kIn _ _ D.at_) rfl hsz hg fun h' eb => ⟨rfl, I.turned (t' := s.toks) (fun b ob hb e => eb b ob hb e) f0 f1 f3 f4 f5⟩
  self := fun A i s Q E st h => wpAny_pyIter_keyiter st h
end
def iKD (K : PySem.W.Frag) (w : World) (td : TE) : TI := fun σ H R => td σ H fun x H1 => ∃ d ks, x = .ref d ∧ KTab K w d ks ∧ R (ItKD ks) H1
section
variable {X : Cx} {tg e : Expr} {td : TE}
theorem pi_kd (K : PySem.W.Frag) (w : World) (he : PE X e td) (hK : X.K = K := by rfl) (hw : X.w = w := by rfl) : PI X tg e (iKD K w td) := by
  subst hK hw
  refine ⟨fun pins s σ H R I h => ?_⟩
  refine thn (he.run pins s σ H _ I h) fun u s1 ⟨x, H1, I1, rx, d, ks, ex, T, q⟩ => ?_
  subst ex
  obtain rfl : u = Value.ref d := rx
  obtain ⟨⟨es, n, D, hk⟩, nd⟩ := T
  have hsz : es.size = ks.length := by rw [← len_of hk, Array.length_toList]
  refine iter_keys D.low (I1.kIn _ _ D.at_) ⟨rfl, rfl, rfl⟩ rfl (pi_one (tk := s1.toks) I1 _ (turn_kd _ D hk nd) ⟨_, Heap.get?_push_size _ rfl, rfl, ?_⟩ q)
  rw [hsz] <;> rfl
end
theorem walk_kd {ks : List Str} : Walk (ItKD ks) ks.length (fun _ => True) (fun i H x H' => H' = H ∧ ∃ k, ks[i]? = some k ∧ x = .str k) :=
  ⟨fun _ _ hi _ => hi, fun _ _ => Nat.le_refl _, fun _ _ _ _ _ _ y => y⟩
/-! ### in, not in, [] of such a dict -/
section
variable {X : Cx}
def rInKD (K : PySem.W.Frag) (w : World) (f : Bool → Bool) : V → V → Hp → VK → Prop := fun x y H Q => ∃ (z : Str) (d : Addr) (ks : List Str) (r : Option Value), x = .str z ∧ y = .ref d ∧ KTab K w d ks ∧ PySem.W.nsIn K d z = some r ∧ Q (.bl (f r.isSome)) H
theorem notInKD (K : PySem.W.Frag) (w : World) (hK : X.K = K := by rfl) (hw : X.w = w := by rfl) : OpR X (compareOp .NotIn) (rInKD K w fun b => !b) := by
  subst hK hw
  intro pins s σ H x y v u Q I rx ry h
  obtain ⟨z, d, ks, r, ex, ey, ⟨⟨es, n, D, _⟩, _⟩, e, q⟩ := h
  exact op_notIn_kd D pins s σ H x y v u Q I rx ry ⟨z, r, ex, ey, e, q⟩
def rIxKD (K : PySem.W.Frag) (w : World) : V → V → Hp → VK → Prop := rIxD K w
theorem ixKD (K : PySem.W.Frag) (w : World) (hK : X.K = K := by rfl) (hw : X.w = w := by rfl) : IxR X (rIxD K w) := by
  subst hK hw
  exact ix_kdict
end
end Oa
namespace Oa
open PySem PySem.Spec PyProof.Rows L2
/-! ### what the head must say of the table of signs -/
def sgKeys : List Str := ["go", "take", "lay"]
def sgTabs : List He.Tab := [((fun K => He.ga K "SIGNS"), sgKeys)]
def sgVals : List (Str × He.Dv) := [("go", .str ">"), ("take", .str "+"), ("lay", .str "-")]
def sgB (K : PySem.W.Frag) : Bool := He.valsB K (He.ga K "SIGNS") sgVals && He.eqO (PySem.W.nsIn K (He.ga K "SIGNS") "ride") (some none)
theorem dicW_keys {K : PySem.W.Frag} {w : World} {a : Addr} {ks : List Str} (h : He.dicW K a = some (He.keysIn w.params ks)) : ∃ es n, KDict K w a es n ∧ es.toList.map He.keyOf = He.keysIn w.params ks := by
  obtain ⟨es, n, D⟩ := He.dicW_ok h
  refine ⟨es, n, D, ?_⟩
  unfold He.dicW at h
  rw [D.at_] at h
  have e3 := D.low
  have h1 : (match decide (("dict" : String) = "dict") && ((#[] : Array (Option Value)).isEmpty && !(a == sysModules)) with
    | true => some (es.toList.map He.keyOf)
    | false => none) = some (He.keysIn w.params ks) := h
  rw [e3] at h1
  exact Option.some.inj h1
theorem saysT_keys {fa : List He.Fa} {fn : List He.DefD} {ts : List He.Tab} {w : World} {K : PySem.W.Frag} (c : He.SaysT fa fn ts w K) (i : Nat) {t : He.Tab} (h : ts[i]? = some t) : ∃ es n, KDict K w (t.1 K) es n ∧ es.toList.map He.keyOf = He.keysIn w.params t.2 := by
  have e : ts.map (fun t => He.dicW K (t.1 K)) = ts.map fun t => some (He.keysIn w.params t.2) := congrArg (fun z : He.AlT => z.2) c
  have e2 : (ts.map fun t => He.dicW K (t.1 K))[i]? = (ts.map fun t => some (He.keysIn w.params t.2))[i]? := by rw [e]
  rw [List.getElem?_map, List.getElem?_map, h] at e2
  exact dicW_keys (Option.some.inj e2)
end Oa
namespace Oa
open PySem PySem.Spec PyProof.Rows L2 Oat
/-! ### list.count, list.index of flat items -/
section
variable {X : Cx}
def rCountF (K : PySem.W.Frag) : V → List V → Hp → VK → Prop := fun x xs H Q => ∃ (a : Addr) (ys : List V) (y : V), x = V.ref a ∧ xs = [y] ∧ SqL K H a ys ∧ flatV y = true ∧ ys.all flatV = true ∧ Q (.int ((ys.countP fun z => eqV z y : Nat) : Int)) H
theorem countP_vals {y : V} : ∀ {ys : List V} {its : List Value}, Vals ys its → ys.all flatV = true → its.countP (eqU y) = ys.countP fun z => eqV z y
  | _, _, .nil, _ => rfl
  | z :: ys, u :: its, .cons r t, f => by
    have f := Bool.and_eq_true_iff.mp (by simpa only [List.all_cons] using f)
    rw [List.countP_cons, List.countP_cons, countP_vals t f.2, eqU_of r f.1]
theorem mt_countF (K : PySem.W.Frag) (h : X.K = K := by rfl) : MtR X "list.count" (rCountF K) := by
  subst h
  intro pins s σ H x xs v us Q I rx rxs h
  obtain ⟨a, ys, y, rfl, rfl, hs, fy, fys, q⟩ := h
  cases rx
  cases rxs with
  | cons ry rt =>
    rename_i uy ut
    cases rt
    obtain ⟨its, rv, ⟨⟨cls, dd, data, sl⟩, n, ho, hc, hdn, hd⟩, hlen⟩ := I.list hs
    simp only at hc hd
    subst hc hd
    refine call_meets PySem.F.slot_list_count ⟨_, ho, rfl⟩ PySem.F.entry_list_count (PySem.F.args_list_count_2 _ _)
      (SeqAt.list_countAt a its.toArray n dd sl uy (eqU y)) ⟨ho, fun u' hu' => mem_eqAt ry fy rv fys u' (by simpa using hu'), ?_⟩
    refine ⟨.int ((ys.countP fun z => eqV z y : Nat) : Int), H, I.tok _, ⟨s.toks, ?_⟩, q⟩
    show Value.int ((its.toArray.toList.countP (eqU y) : Nat) : Int) s.toks = _
    rw [show its.toArray.toList = its from rfl, countP_vals rv fys]
theorem mt_indexK (K : PySem.W.Frag) (h : X.K = K := by rfl) : MtR X "list.index" (rIndex K) := by subst h; exact mt_index
end
/-! ### calls that may raise, wished for at the slots -/
def tCallNS (n m : Nat) (sp : Sp) (gV : List V → List V → List V) (E : L2.St → XK) (t tk : TA) : TE := fun σ H Q => t σ H fun vs H1 => tk σ H1 fun zs H2 => vs.length = n ∧ zs.length = m ∧ sp (gV vs zs) H2 Q (E σ)
section
variable {X : Cx} {CX : CXT} {k n : Nat} {f : Addr} {fd : FuncData} {ps ks : List Str} {sp : Sp} {E : L2.St → XK} {x : Str} {p pos : Pos} {e : Expr} {es : List Expr} {kws : List Keyword} {t tk : TA} {g : List Value → List Value → List Value} {gV : List V → List V → List V}
theorem run_fnNS {pins : List (Addr × Obj)} {σ : L2.St} {H : Hp} {s : Shared} {Q : VK} {us ws : List Value} {vs zs : List V} (F : FnOk X.prog X.w X.K X.mg X.base CX k f fd ps sp) (hr : Room k X.A) (hb : KBn X.K fd ps n ks g gV) (hx : PassesAt CX X σ (E σ))
    (I : Inv X pins σ H s) (r : Vals vs us) (rz : Vals zs ws) (l1 : vs.length = n) (l2 : zs.length = ks.length) (h : sp (gV vs zs) H Q (E σ)) : wpAny (model X.prog X.w) X.A (call (.ref f) us (ks.zip ws)) (EP X pins σ Q) X.xe s := by
  have r2 := hb.rel r rz
  refine wpAny_call (codeAny_mono (F.run X.A X.stack s H ⟨us, ks.zip ws⟩ (g us ws) (gV vs zs) Q (E σ) hr I.env0 (hb.to s us ws I.kIn (r.length.symm.trans l1) (rz.length.symm.trans l2)) r2 h) fun r s' hq => ?_)
  cases r with
  | error e => exact hx pins H s e s' I hq
  | ok fl =>
    cases fl with
    | ret u => exact I.after hq
    | next => exact False.elim hq
    | brk => exact False.elim hq
    | cont => exact False.elim hq
end
section
variable {X : Cx} {CX : CXT} {k n : Nat} {x kw : Str} {dv : V} {ps : List Str} {sp : Sp} {e ek : Expr} {es : List Expr} {t : TA} {te : TE} {p pos kpos : Pos} {E : L2.St → XK}
/-- f(e, .., kw = v), what is raised wished for at the slots -/
theorem pcallKS (c : CalK X.prog X.w X.K X.mg X.base CX k x ps n kw dv sp) (hr : Room k X.A) (hx : ∀ σ, PassesAt CX X σ (E σ)) (ha : PA X (e :: es) t) (hk : PE X ek te) (hg : Gl X x := by rfl)
    (hall : (backToKw pos (keywordEach [⟨some kw, ek, kpos⟩] X.env)).all (·.1.isSome) = true := by rfl) (hks : (backToKw pos (keywordEach [⟨some kw, ek, kpos⟩] X.env)).filterMap (·.1) = [kw] := by rfl)
    (hdb : (x == ("__debug__" : Str)) = false := by decide) (he : starEach (e :: es) X.env = (false, eval e X.env) :: starEach es X.env := by rfl)
    (hpl : ((backTo pos (starEach (e :: es) X.env)).any (·.1) || (backToKw pos (keywordEach [⟨some kw, ek, kpos⟩] X.env)).any (·.1.isNone)) = false := by rfl) :
    PE X (.Call (.Name x p) (e :: es) [⟨some kw, ek, kpos⟩] pos) (tCallNS n 1 sp (fun vs zs => vs ++ zs) E t (tCons te tNil)) := by
  obtain ⟨f, fd, hm, hkp, hb, _, F⟩ := c
  refine ⟨fun pins s σ H Q I h => ?_⟩
  refine wpAny_Call_Name_kw (ld_glob I hg hm ?_ hdb)
  refine PySem.W.callWith_KW (h₀ := X.base) I.ok.mod.kin hkp hall (thn (ha.run pos pins s σ H _ I h) fun us s1 ⟨vs, H1, I1, r, q⟩ => ?_) hpl he
  refine thn ((pk_cons hk pk_nil).run pos pins s1 σ H1 _ I1 q) fun ws s2 ⟨zs, H2, I2, rz, l1, l2, q2⟩ => ⟨I2.kIn, ?_⟩
  rw [hks]
  exact run_fnNS F hr hb (hx σ) I2 r rz l1 l2 q2
/-- f(e, ..), kw left out -/
theorem pcallDS (c : CalK X.prog X.w X.K X.mg X.base CX k x ps n kw dv sp) (hr : Room k X.A) (hx : ∀ σ, PassesAt CX X σ (E σ)) (ha : PA X (e :: es) t) (hg : Gl X x := by rfl)
    (hdb : (x == ("__debug__" : Str)) = false := by decide) (he : starEach (e :: es) X.env = (false, eval e X.env) :: starEach es X.env := by rfl) (hpl : (backTo pos (starEach es X.env)).any (·.1) = false := by rfl) :
    PE X (.Call (.Name x p) (e :: es) [] pos) (tCallSD sp [dv] E t) := by
  obtain ⟨f, fd, g, kp, _, ⟨ds, hv, b⟩, F⟩ := c
  exact pe_callSD F hr hg g kp b hv hx ha hdb he hpl
/-- f(e, ..) -/
theorem pcallS (c : Cal X.prog X.w X.K X.mg X.base CX k x ps sp) (hr : Room k X.A) (hx : ∀ σ, PassesAt CX X σ (E σ)) (ha : PA X (e :: es) t) (hg : Gl X x := by rfl)
    (hdb : (x == ("__debug__" : Str)) = false := by decide) (he : starEach (e :: es) X.env = (false, eval e X.env) :: starEach es X.env := by rfl) (hpl : (backTo pos (starEach es X.env)).any (·.1) = false := by rfl) :
    PE X (.Call (.Name x p) (e :: es) [] pos) (tCallS sp E t) := by
  obtain ⟨f, fd, g, kp, b, F⟩ := c
  exact pe_callS F hr hg g kp b hx ha hdb he hpl
end
theorem takesNo {X : Cx} : Takes X (fun _ _ _ _ => False) := fun u s' ⟨a, B, sI, pins, σ, H, cls, d, e, I, nb, up, sky, na, os, ag, w⟩ => w.elim
/-! ### the errors -/
def errN : List Str := ["BadLand", "BadWorks", "BadWants", "BadPlan", "BadPaper", "BadText", "NoneSuch"]
def mroVE : List Value := [.type "ValueError", .type "Exception", .type "BaseException", .type "object"]
structure ErrOk (K : PySem.W.Frag) (mg : Str → Option Value) (x : Str) : Prop where
  g : mg x = some (.ref (He.ga K x))
  kp : PySem.W.keepIn K (.ref (He.ga K x)) = true
  sb : PySem.W.subIn K (.ref (He.ga K x)) (.type "BaseException") = some true
  ty : PySem.W.typeIn K (.ref (He.ga K x)) = some (.type "type")
  ec : ExcC K (He.ga K x)
  xo : PySem.W.exmOne K (.ref (He.ga K x)) (.ref (He.ga K "OatError")) = some true
  kv : PySem.W.kitOne K (.ref (He.ga K x)) (.type "ValueError") = some true
  ko : PySem.W.kitOne K (.ref (He.ga K x)) (.ref (He.ga K "OatError")) = some true
structure Errs (K : PySem.W.Frag) (mg : Str → Option Value) : Prop where
  oat : mg "OatError" = some (.ref (He.ga K "OatError"))
  ok : ∀ x ∈ errN, ErrOk K mg x
  own : ∀ x ∈ errN, x ≠ "BadPlan" → PySem.W.excIn K (He.ga K x) mroVE "ValueError.__new__" = true
  sep : ∀ x ∈ errN, ∀ y ∈ errN, PySem.W.kitOne K (.ref (He.ga K x)) (.ref (He.ga K y)) = some (decide (x = y))
def errOkB (K : PySem.W.Frag) (x : Str) : Bool :=
  PySem.W.keepIn K (.ref (He.ga K x)) && (decide (PySem.W.subIn K (.ref (He.ga K x)) (.type "BaseException") = some true) && (decide (PySem.W.typeIn K (.ref (He.ga K x)) = some (.type "type")) &&
  (decide (PySem.W.findIn K (.ref (He.ga K x)) "__getattribute__" = some (some (.builtin "BaseException.__getattribute__"))) && (decide (PySem.W.findIn K (.ref (He.ga K x)) "__getattr__" = some none) && (PySem.W.hasDictIn K (He.ga K x) &&
  (decide (PySem.W.findIn K (.ref (He.ga K x)) "__class__" = some (some (.builtin "object.__class__"))) && (decide (PySem.W.specialIn K (.builtin "object.__class__") "__get__" = some (some (.builtin "getset_descriptor.__get__"))) &&
  (decide (PySem.W.takesIn K (.builtin "object.__class__") = some true) && (decide (PySem.W.mroIn K (He.ga K x) (.type "object") = some true) && (decide (PySem.W.exmOne K (.ref (He.ga K x)) (.ref (He.ga K "OatError")) = some true) &&
  (decide (PySem.W.kitOne K (.ref (He.ga K x)) (.type "ValueError") = some true) && decide (PySem.W.kitOne K (.ref (He.ga K x)) (.ref (He.ga K "OatError")) = some true))))))))))))
def errsB (K : PySem.W.Frag) : Bool := errN.all (fun x => errOkB K x && ((decide (x = "BadPlan") || PySem.W.excIn K (He.ga K x) mroVE "ValueError.__new__") && errN.all fun y => decide (PySem.W.kitOne K (.ref (He.ga K x)) (.ref (He.ga K y)) = some (decide (x = y)))))
theorem errs_of {K : PySem.W.Frag} {mg : Str → Option Value} (h : errsB K = true) (g : ∀ x ∈ errN, mg x = some (.ref (He.ga K x))) (go : mg "OatError" = some (.ref (He.ga K "OatError"))) : Errs K mg := by
  have key : ∀ x ∈ errN, errOkB K x = true ∧ (x ≠ "BadPlan" → PySem.W.excIn K (He.ga K x) mroVE "ValueError.__new__" = true) ∧ ∀ y ∈ errN, PySem.W.kitOne K (.ref (He.ga K x)) (.ref (He.ga K y)) = some (decide (x = y)) := fun x hx => by
    have := List.all_eq_true.mp h x hx
    obtain ⟨h1, h2⟩ := He.ba this
    obtain ⟨h2, h3⟩ := He.ba h2
    refine ⟨h1, fun hn => ?_, fun y hy => of_decide_eq_true (List.all_eq_true.mp h3 y hy)⟩
    rcases Bool.or_eq_true_iff.mp h2 with z | z
    · exact absurd (of_decide_eq_true z) hn
    · exact z
  refine ⟨go, fun x hx => ?_, fun x hx => (key x hx).2.1, fun x hx => (key x hx).2.2⟩
  have k := (key x hx).1
  unfold errOkB at k
  obtain ⟨k1, k⟩ := He.ba k
  obtain ⟨k2, k⟩ := He.ba k
  obtain ⟨k3, k⟩ := He.ba k
  obtain ⟨k4, k⟩ := He.ba k
  obtain ⟨k5, k⟩ := He.ba k
  obtain ⟨k6, k⟩ := He.ba k
  obtain ⟨k7, k⟩ := He.ba k
  obtain ⟨k8, k⟩ := He.ba k
  obtain ⟨k9, k⟩ := He.ba k
  obtain ⟨k10, k⟩ := He.ba k
  obtain ⟨k11, k⟩ := He.ba k
  obtain ⟨k12, k13⟩ := He.ba k
  exact ⟨g x hx, k1, of_decide_eq_true k2, of_decide_eq_true k3, ⟨of_decide_eq_true k4, of_decide_eq_true k5, of_decide_eq_true k2, k6, of_decide_eq_true k7, of_decide_eq_true k8, of_decide_eq_true k9, of_decide_eq_true k10⟩, of_decide_eq_true k11, of_decide_eq_true k12, of_decide_eq_true k13⟩
section
variable {X : Cx}
/-- X('m'), X an error of the program -/
theorem pmkE {x m : Str} {j : Nat} {p p2 pos : Pos} (R : Errs X.K X.mg) (hx : x ∈ errN) (hn : x ≠ "BadPlan") (hg : Gl X x) (hdb : (x == ("__debug__" : Str)) = false := by decide) :
    PMk X (.Call (.Name x p) [.Constant (.str m) j p2] [] pos) (fun _ H Q => Q (.ref (He.ga X.K x)) none H) :=
  pmk_own PySem.F.excBase_ValueError (R.own x hx hn) (R.ok x hx).g (R.ok x hx).kp (raises_own (R.ok x hx).sb (R.ok x hx).ty) hg hdb
end
end Oa
open_top hd for PySem.Challenge.rw_oatroads_k11_whole_texts
namespace Oa
open PySem PySem.Spec PyProof.Rows L2
def allB (K : PySem.W.Frag) : Bool := errsB K && sgB K
def d_BadPlan___init__ : He.DefD := ⟨("BadPlan", some "__init__"), "__init__", "BadPlan.__init__", defArgs (inClass c_BadPlan 0), defBody (inClass c_BadPlan 0), defScope (inClass c_BadPlan 0), [], []⟩
def d_is_whole : He.DefD := ⟨("is_whole", none), "is_whole", "is_whole", defArgs s_is_whole, defBody s_is_whole, defScope s_is_whole, [], []⟩
def d_is_land : He.DefD := ⟨("is_land", none), "is_land", "is_land", defArgs s_is_land, defBody s_is_land, defScope s_is_land, [], []⟩
def d_is_wants : He.DefD := ⟨("is_wants", none), "is_wants", "is_wants", defArgs s_is_wants, defBody s_is_wants, defScope s_is_wants, [], []⟩
def d_look_land : He.DefD := ⟨("look_land", none), "look_land", "look_land", defArgs s_look_land, defBody s_look_land, defScope s_look_land, [], []⟩
def d_land_text : He.DefD := ⟨("land_text", none), "land_text", "land_text", defArgs s_land_text, defBody s_land_text, defScope s_land_text, [], []⟩
def d_number_in : He.DefD := ⟨("number_in", none), "number_in", "number_in", defArgs s_number_in, defBody s_number_in, defScope s_number_in, [], []⟩
def d_land_read : He.DefD := ⟨("land_read", none), "land_read", "land_read", defArgs s_land_read, defBody s_land_read, defScope s_land_read, [], []⟩
def d_deed_text : He.DefD := ⟨("deed_text", none), "deed_text", "deed_text", defArgs s_deed_text, defBody s_deed_text, defScope s_deed_text, [], []⟩
def d_is_deed : He.DefD := ⟨("is_deed", none), "is_deed", "is_deed", defArgs s_is_deed, defBody s_is_deed, defScope s_is_deed, [], []⟩
def d_plan_text : He.DefD := ⟨("plan_text", none), "plan_text", "plan_text", defArgs s_plan_text, defBody s_plan_text, defScope s_plan_text, [], []⟩
def d_plan_read : He.DefD := ⟨("plan_read", none), "plan_read", "plan_read", defArgs s_plan_read, defBody s_plan_read, defScope s_plan_read, [], []⟩
def d__law_town : He.DefD := ⟨("_law_town", none), "_law_town", "_law_town", defArgs s__law_town, defBody s__law_town, defScope s__law_town, [], []⟩
def d__law_draw : He.DefD := ⟨("_law_draw", none), "_law_draw", "_law_draw", defArgs s__law_draw, defBody s__law_draw, defScope s__law_draw, [], []⟩
def d__law_pick : He.DefD := ⟨("_law_pick", none), "_law_pick", "_law_pick", defArgs s__law_pick, defBody s__law_pick, defScope s__law_pick, [], []⟩
def d__law_refusal : He.DefD := ⟨("_law_refusal", none), "_law_refusal", "_law_refusal", defArgs s__law_refusal, defBody s__law_refusal, defScope s__law_refusal, [], []⟩
def d__law_land : He.DefD := ⟨("_law_land", none), "_law_land", "_law_land", defArgs s__law_land, defBody s__law_land, defScope s__law_land, [], []⟩
def d__law_wants : He.DefD := ⟨("_law_wants", none), "_law_wants", "_law_wants", defArgs s__law_wants, defBody s__law_wants, defScope s__law_wants, [], []⟩
def d__law_text : He.DefD := ⟨("_law_text", none), "_law_text", "_law_text", defArgs s__law_text, defBody s__law_text, defScope s__law_text, [], []⟩
def d__law_words : He.DefD := ⟨("_law_words", none), "_law_words", "_law_words", defArgs s__law_words, defBody s__law_words, defScope s__law_words, [], []⟩
def d__law_read : He.DefD := ⟨("_law_read", none), "_law_read", "_law_read", defArgs s__law_read, defBody s__law_read, defScope s__law_read, [], []⟩
def d__law_written : He.DefD := ⟨("_law_written", none), "_law_written", "_law_written", defArgs s__law_written, defBody s__law_written, defScope s__law_written, [], []⟩
def d__law_none : He.DefD := ⟨("_law_none", none), "_law_none", "_law_none", defArgs s__law_none, defBody s__law_none, defScope s__law_none, [], []⟩
def d_law : He.DefD := ⟨("law", none), "law", "law", defArgs s_law, defBody s_law, defScope s_law, [], []⟩
def hfn : List He.DefD := [d_BadPlan___init__, d_is_whole, d_is_land, d_is_wants, d_look_land, d_land_text, d_number_in, d_land_read, d_deed_text, d_is_deed, d_plan_text, d_plan_read, d__law_town, d__law_draw, d__law_pick, d__law_refusal, d__law_land, d__law_wants, d__law_text, d__law_words, d__law_read, d__law_written, d__law_none, d_law]
def hfa : List He.Fa := [.glo "OatError", .glo "BadLand", .glo "BadWorks", .glo "BadWants", .glo "BadPlan", .glo "BadPaper", .glo "BadText", .glo "NoneSuch", .glo "is_whole", .glo "is_land", .glo "is_wants", .glo "look_land", .glo "land_text", .glo "number_in", .glo "land_read", .glo "deed_text", .glo "is_deed", .glo "plan_text", .glo "plan_read", .glo "_law_town", .glo "_law_draw", .glo "_law_pick", .glo "_law_refusal", .glo "_law_land", .glo "_law_wants", .glo "_law_text", .glo "_law_words", .glo "_law_read", .glo "_law_written", .glo "_law_none", .glo "law", .free "ValueError", .free "all", .free "any", .free "bool", .free "int", .free "isinstance", .free "len", .free "list", .free "range", .free "str", .free "tuple", .int "MOST_PLACES" 30, .int "MOST_WANT" 999, .int "MOST_DEEDS" 20000, .glo "SIGNS", .str "FIGURES" "0123456789"]
def hloose : List Str := (["OatError", "BadLand", "BadWorks", "BadWants", "BadPlan", "BadPaper", "BadText", "NoneSuch", "is_whole", "MOST_PLACES", "MOST_WANT", "is_land", "is_wants", "look_land", "MOST_DEEDS", "FIGURES", "SIGNS", "land_text", "number_in", "land_read", "deed_text", "is_deed", "plan_text", "plan_read", "_law_town", "_law_draw", "_law_pick", "_law_refusal", "_law_land", "_law_wants"] : List Str) ++ (["_law_text", "_law_words", "_law_read", "_law_written", "_law_none"] : List Str)
abbrev rowR : PySem.W.OpenRow := PySem.W.OpenLaw.row PySem.Challenge.rw_oatroads_k11_whole_texts

noncomputable def Kx (P : Params) : PySem.W.Frag := hd.heap_39 P
theorem kf1 (P : Params) : (hfa.all fun f => f.ok (Kx P)) = true := by kernel_rfl
theorem kf2 (P : Params) : (hfn.all fun f => f.ok (Kx P)) = true := by kernel_rfl
theorem kf3 (P : Params) : allB (Kx P) = true := by kernel_rfl
theorem kf4 (P : Params) : He.dicW (Kx P) (He.ga (Kx P) "SIGNS") = some (He.keysIn P sgKeys) := by kernel_rfl
theorem kf5 (P : Params) : (hfn.map fun d => He.fnW (Kx P) d.at_) = hfn.map He.DefD.val := by kernel_rfl
theorem saysDR (P : Params) : He.SaysD hfa hfn (Kx P) := by
  refine Prod.ext ?_ (kf5 P)
  show ((hfa.all fun f => f.ok (Kx P)) && hfn.all fun d => d.ok (Kx P)) = true
  rw [kf1, kf2]
  rfl
theorem saysTR (w : World) : He.SaysT hfa hfn sgTabs w (Kx w.params) := by
  refine Prod.ext (saysDR w.params) ?_
  show [He.dicW (Kx w.params) (He.ga (Kx w.params) "SIGNS")] = [some (He.keysIn w.params sgKeys)]
  rw [kf4]
end Oa
namespace Oa
open PySem PySem.Spec PyProof.Rows L2 Oat
section
variable {P : Program} {w : World} {K : PySem.W.Frag} {mg : Str → Option Value} {base : Heap}
/-! ### is_whole -/
def isWholeV (v : V) (lo hi : Int) : Bool := match v with
  | .int i => decide (lo ≤ i ∧ i ≤ hi)
  | _ => false
/-- an int, a bool, or a thing of a type that is none -/
def Thing (K : PySem.W.Frag) (H : Hp) (v : V) : Prop := (∃ i, v = .int i) ∨ (∃ b, v = .bl b) ∨ ((∀ i, v ≠ .int i) ∧ ∃ t, TyX K H v (.type t) ∧ kitB t "int" = some false)
def sp_is_whole (K : PySem.W.Frag) : Sp := fun vs H Q _ => ∃ v lo hi, vs = [v, .int lo, .int hi] ∧ Thing K H v ∧ Q (.bl (isWholeV v lo hi)) H
theorem c_is_whole (T : Txt K mg) : Cal P w K mg base CX0 1 "is_whole" ["thing", "low", "high"] (sp_is_whole K) := by
  refine cal0 T.d_is_whole sc_is_whole (fun _ _ _ _ _ _ us hl => match us, hl with | [_, _, _], _ => rfl) (fun vs H Q E h => ?_) (fun f cdv A outer s H vs Q E hr h => ?_)
  · obtain ⟨v, lo, hi, rfl, _⟩ := h
    rfl
  · obtain ⟨v, lo, hi, rfl, th, q⟩ := h
    refine ⟨_, (pss_one (ps_ret (pe_and (pe_callB (isi K) rfl T.b_isinstance (by decide +kernel) (pa_cons (pv 0) (pa_cons (pe_bltn (v := .ty "int") rfl T.b_int (by decide +kernel) rfl) pa_nil))) (pe_and (pe_not (pe_callB (isi K) rfl T.b_isinstance (by decide +kernel) (pa_cons (pv 0) (pa_cons (pe_bltn (v := .ty "bool") rfl T.b_bool (by decide +kernel) rfl) pa_nil)))) (pe_one (pe_chain op_le op_le (pv 1) (pv 0) (pv 2))))))), ?_⟩
    rcases th with ⟨i, rfl⟩ | ⟨b, rfl⟩ | ⟨ni, t, ty, kb⟩
    · refine ⟨_, rfl, .int i, .ty "int", .type "int", .type "int", true, rfl, .ty "int", .base (.int i), kit_ty (by decide +kernel), true, rfl, iteT ?_⟩
      refine ⟨_, rfl, .int i, .ty "bool", .type "int", .type "bool", false, rfl, .ty "bool", .base (.int i), kit_ty (by decide +kernel), false, rfl, true, rfl, iteT ?_⟩
      refine ⟨_, rfl, _, rfl, _, _, rfl, rfl, _, rfl, ite2 (fun c => ?_) (fun c => ?_)⟩
      · refine ⟨_, rfl, _, _, rfl, rfl, ?_⟩
        have c' := of_decide_eq_true c
        have e : isWholeV (.int i) lo hi = decide (i ≤ hi) := by
          unfold isWholeV
          exact decide_eq_decide.mpr ⟨fun h => h.2, fun h => ⟨c', h⟩⟩
        rw [e] at q
        exact q
      · have c' := of_decide_eq_false (Bool.eq_false_iff.mpr c)
        have e : isWholeV (.int i) lo hi = false := decide_eq_false fun h => c' h.1
        rw [e] at q
        exact q
    · refine ⟨_, rfl, .bl b, .ty "int", .type "bool", .type "int", true, rfl, .ty "int", .base (.bl b), kit_ty (by decide +kernel), true, rfl, iteT ?_⟩
      refine ⟨_, rfl, .bl b, .ty "bool", .type "bool", .type "bool", true, rfl, .ty "bool", .base (.bl b), kit_ty (by decide +kernel), true, rfl, false, rfl, iteF ?_⟩
      exact q
    · refine ⟨_, rfl, v, .ty "int", .type t, .type "int", false, rfl, .ty "int", ty, kit_ty kb, false, rfl, iteF ?_⟩
      have e : isWholeV v lo hi = false := by
        cases v with
        | int i => exact absurd rfl (ni i)
        | _ => rfl
      rw [e] at q
      exact q
/-! ### lands, works, wants as values -/
def landV (L : List Nat) : List V := .non :: L.map fun (p : Nat) => V.int (p : Int)
def optV : Option Nat → V
  | none => .non
  | some n => .int (n : Int)
def wantsV (W : List (Option Nat)) : List V := W.map optV
theorem landV_len (L : List Nat) : (landV L).length = L.length + 1 := by simp [landV]
theorem landV_at {L : List Nat} {i : Nat} (h : i < L.length) : (landV L)[i + 1]? = some (.int ((L.getD i 0 : Nat) : Int)) := by
  simp [landV, h]
theorem optV_thing {H : Hp} (o : Option Nat) : Thing K H (optV o) := by
  cases o with
  | none => exact .inr (.inr ⟨(fun i e => nomatch e), "NoneType", TyX.base TyOf.non, by decide +kernel⟩)
  | some n => exact .inl ⟨n, rfl⟩
/-! ### beyond -/
def sp_beyond (K : PySem.W.Frag) : Sp := fun vs H Q _ => ∃ a L p, vs = [.ref a, .int ((p : Nat) : Int)] ∧ SqT K H a (landV L) ∧ L.length < 30 ∧
  ∀ l H', H l = none → Same H H' → H' l = some (.lst ((kids L p).map fun (k : Nat) => V.int (k : Int))) → Q (.ref l) H'
theorem paired_vals {α : Type} {g : α → V} {Rr : α → V → Prop} (h : ∀ a v, Rr a v → v = g a) : ∀ {xs : List α} {ys : List V}, Paired Rr xs ys → ys = xs.map g
  | _, _, .nil => rfl
  | _, _, .cons a b => by rw [List.map_cons, h _ _ a, paired_vals h b]
/-! ### is_land, is_works, is_wants: of those that are -/
theorem all_yes : ∀ {xs : List Nat} {ys : List V}, Paired (fun (_ : Nat) v => v = V.bl true) xs ys → ∃ bs : List Bool, ys = bs.map V.bl ∧ bs.all id = true
  | _, _, .nil => ⟨[], rfl, rfl⟩
  | _, _, .cons a b => by
    obtain ⟨bs, e, h⟩ := all_yes b
    exact ⟨true :: bs, by rw [a, e]; rfl, by rw [List.all_cons, h]; rfl⟩
theorem tyT {H : Hp} {a : Addr} {xs : List V} (h : SqT K H a xs) : TyX K H (.ref a) (.type "tuple") := by
  rcases h with (h | ⟨o, h⟩) | ⟨o, its, n, h1, h2, _⟩
  · exact .base (.tup h)
  · exact .fTuple h
  · exact .kTuple h1 h2
def sp_is_land (K : PySem.W.Frag) : Sp := fun vs H Q _ => ∃ a L, vs = [.ref a] ∧ SqT K H a (landV L) ∧ L.length < 30 ∧ WfL L ∧ ∀ H', Same H H' → Q (.bl true) H'
theorem c_is_land (T : Txt K mg) : Cal P w K mg base CX0 2 "is_land" ["thing"] (sp_is_land K) := by
  refine cal0 T.d_is_land sc_is_land (fun _ _ _ _ _ _ us hl => match us, hl with | [_], _ => rfl) (fun vs H Q E h => ?_) (fun f cdv A outer s H vs Q E hr h => ?_)
  · obtain ⟨a, L, rfl, _⟩ := h
    rfl
  · obtain ⟨a, L, rfl, hS, hL, wf, q⟩ := h
    refine ⟨_, (pss_cons (ps_if (PW.pt (pw_or (pt_not (pt_val (pe_callB (isi K) rfl T.b_isinstance (by decide +kernel) (pa_cons (pv 0) (pa_cons (pe_bltn (v := .ty "tuple") rfl T.b_tuple (by decide +kernel) rfl) pa_nil))))) (pw_or (pt_not (pt_chain op_le op_le pe_int (pe_callB (lenS K) rfl T.b_len PySem.boot_len (pa_cons (pv 0) pa_nil)) (pe_glob (v := .int 30) rfl T.i_MOST_PLACES.choose_spec ⟨_, rfl⟩))) (pw_or1 (pt_cmpR op_notN (pe_ix (ixT K) (pv 0) pe_int (fun _ _ => rfl)) pe_non (nomark _)))))) (pss_one (ps_ret pe_bl)) pss_nil)
      (pss_one (ps_ret (pe_callB (allL K rfl) rfl T.b_all (by decide +kernel) (pa_cons (pe_lc (own := [("k", 1)]) (g := gName 1) rfl sc_is_land.nd (pi_range2 rfl T.b_range (pa_cons pe_int (pa_cons (pe_callB (lenS K) rfl T.b_len PySem.boot_len (pa_cons (pv 0) pa_nil)) pa_nil))) (blkOk_by (own := [("k", 1)]) (N := ["thing", "k"]) (sc := (defScope s_is_land)) (by decide +kernel)) (fun _ _ _ _ _ => pg_name (i := 1) sc_is_land.nd rfl (Or.inl rfl)) (fun _ _ _ _ _ => pts_nil) (fun _ _ _ _ _ => (pcall (c_is_whole T) (hr.mono (by omega)) (pa_cons (pe_ix (ixT K) (pv 0) (pv 1) (fun _ _ => rfl)) (pa_cons pe_int (pa_cons (pe_op op_sub (pv 1) pe_int) pa_nil)))))) pa_nil))))), ?_⟩
    have el : (landV L).length = L.length + 1 := landV_len L
    refine ⟨_, rfl, .ref a, .ty "tuple", .type "tuple", .type "tuple", true, rfl, .ty "tuple", tyT hS, kit_ty (by decide +kernel), true, rfl, iteF ?_⟩
    refine ⟨_, rfl, a, _, rfl, .inr hS, 1, _, rfl, rfl, true, congrArg V.bl (decide_eq_true (by omega)), iteT ?_⟩
    refine ⟨_, _, rfl, rfl, true, congrArg V.bl (decide_eq_true (by omega)), iteF ?_⟩
    refine ⟨_, rfl, a, _, 0, .non, rfl, rfl, hS, atI_nat (j := 0) rfl, rfl, false, rfl, iteF ?_⟩
    refine ⟨_, rfl, a, _, rfl, .inr hS, _, _, rfl, ⟨by decide, by decide, by omega, by omega⟩, fun D hD => ?_⟩
    refine lc_rel walk_range hD (by omega) (fun _ _ => trivial) (fun i => true) (fun i v _ => v = .bl true) (fun _ _ _ _ _ _ _ h => h) (fun i x H2 H3 l hi s1 hy y => ?_) (fun ys H2 s1 hy hp => ?_)
    · obtain ⟨rfl, rfl⟩ := y
      have hi' : i < L.length := by omega
      have e1 : (1 : Int) + (i : Int) = ((i + 1 : Nat) : Int) := by omega
      refine ⟨Same.refl _, rfl, fun Q' q' => q' H3 (Same.refl _), fun _ H4 s4 Q' q' => ?_⟩
      refine ⟨_, rfl, _, rfl, a, _, _, _, rfl, rfl, same_t (s1.trans s4) hS, (by rw [e1]; exact atI_nat (landV_at hi')), _, rfl, _, _, rfl, rfl, _, _, _, rfl, .inl ⟨_, rfl⟩, ?_⟩
      refine q' _ H4 (Same.refl _) ?_
      have hw := wf i hi'
      exact congrArg V.bl (decide_eq_true ⟨by omega, by omega⟩)
    · obtain ⟨bs, e, hb⟩ := all_yes hp
      refine ⟨D, bs, rfl, sql (by rw [hy, e]), ?_⟩
      rw [hb]
      exact q H2 s1
def worksV (c r : Nat) : List V := [.int (c : Int), .int (r : Int)]
def sp_is_works (K : PySem.W.Frag) : Sp := fun vs H Q _ => ∃ a c r, vs = [.ref a] ∧ SqT K H a (worksV c r) ∧ 1 ≤ c ∧ c ≤ 6 ∧ 2 ≤ r ∧ r ≤ 20 ∧ Q (.bl true) H
def WantsOk (W : List (Option Nat)) : Prop := ∀ (i : Nat) (u : Nat), W[i]? = some (some u) → u ≤ 999
def sp_is_wants (K : PySem.W.Frag) : Sp := fun vs H Q _ => ∃ a b L W, vs = [.ref a, .ref b] ∧ SqT K H a (landV L) ∧ SqT K H b (wantsV W) ∧ W.length = L.length + 1 ∧ L.length < 30 ∧ WantsOk W ∧ ∀ H', Same H H' → Q (.bl true) H'
theorem wantsV_len (W : List (Option Nat)) : (wantsV W).length = W.length := by simp [wantsV]
theorem wantsV_at {W : List (Option Nat)} {i : Nat} {x : V} (h : (wantsV W)[i]? = some x) : ∃ o, W[i]? = some o ∧ x = optV o := by
  unfold wantsV at h
  rw [List.getElem?_map] at h
  cases e : W[i]? with
  | none => rw [e] at h; cases h
  | some o => rw [e] at h; exact ⟨o, rfl, (Option.some.inj h).symm⟩
theorem c_is_wants (T : Txt K mg) : Cal P w K mg base CX0 2 "is_wants" ["land", "thing"] (sp_is_wants K) := by
  refine cal0 T.d_is_wants sc_is_wants (fun _ _ _ _ _ _ us hl => match us, hl with | [_, _], _ => rfl) (fun vs H Q E h => ?_) (fun f cdv A outer s H vs Q E hr h => ?_)
  · obtain ⟨a, b, L, W, rfl, _⟩ := h
    rfl
  · obtain ⟨a, b, L, W, rfl, hS, hW, hl, hL, hw, q⟩ := h
    refine ⟨_, (pss_cons (ps_if (PW.pt (pw_or (pt_not (pt_val (pe_callB (isi K) rfl T.b_isinstance (by decide +kernel) (pa_cons (pv 1) (pa_cons (pe_bltn (v := .ty "tuple") rfl T.b_tuple (by decide +kernel) rfl) pa_nil))))) (pw_or1 (pt_cmpR op_ne (pe_callB (lenS K) rfl T.b_len PySem.boot_len (pa_cons (pv 1) pa_nil)) (pe_callB (lenS K) rfl T.b_len PySem.boot_len (pa_cons (pv 0) pa_nil)) (nomark _))))) (pss_one (ps_ret pe_bl)) pss_nil)
      (pss_one (ps_ret (pe_callB (allL K rfl) rfl T.b_all (by decide +kernel) (pa_cons (pe_lc (own := [("one", 2)]) (g := gName 2) rfl sc_is_wants.nd (piT K (pv 1)) (blkOk_by (own := [("one", 2)]) (N := ["land", "thing", "one"]) (sc := (defScope s_is_wants)) (by decide +kernel)) (fun _ _ _ _ _ => pg_name (i := 2) sc_is_wants.nd rfl (Or.inl rfl)) (fun _ _ _ _ _ => pts_nil) (fun _ _ _ _ _ => (pe_or (pe_cmpR op_isN (pv 2) pe_non (nomark _)) (pe_one (pcall (c_is_whole T) (hr.mono (by omega)) (pa_cons (pv 2) (pa_cons pe_int (pa_cons (pe_glob (v := .int 999) rfl T.i_MOST_WANT.choose_spec ⟨_, rfl⟩) pa_nil)))))))) pa_nil))))), ?_⟩
    have el : (landV L).length = L.length + 1 := landV_len L
    have ew : (wantsV W).length = W.length := wantsV_len W
    refine ⟨_, rfl, .ref b, .ty "tuple", .type "tuple", .type "tuple", true, rfl, .ty "tuple", tyT hW, kit_ty (by decide +kernel), true, rfl, iteF ?_⟩
    refine ⟨_, rfl, b, _, rfl, .inr hW, _, rfl, a, _, rfl, .inr hS, rfl, false, ?_, iteF ?_⟩
    · rw [el, ew, hl]
      simp
    refine ⟨_, rfl, b, rfl, ⟨_, hW⟩, fun D hD => ?_⟩
    refine lc_rel (walk_tup (xs := wantsV W)) hD (by omega) (fun H' s => same_t s hW) (fun i => true) (fun i v _ => v = .bl true) (fun _ _ _ _ _ _ _ h => h) (fun i x H2 H3 l hi s1 hy y => ?_) (fun ys H2 s1 hy hp => ?_)
    · obtain ⟨rfl, hx⟩ := y
      obtain ⟨o, ho, rfl⟩ := wantsV_at hx
      refine ⟨Same.refl _, rfl, fun Q' q' => q' H3 (Same.refl _), fun _ H4 s4 Q' q' => ?_⟩
      cases o with
      | none => exact ⟨_, rfl, rfl, true, rfl, iteT (q' _ H4 (Same.refl _) rfl)⟩
      | some u =>
        refine ⟨_, rfl, rfl, false, rfl, iteF ?_⟩
        refine ⟨_, rfl, _, _, _, rfl, .inl ⟨_, rfl⟩, q' _ H4 (Same.refl _) ?_⟩
        have := hw i u ho
        exact congrArg V.bl (decide_eq_true ⟨by omega, by omega⟩)
    · obtain ⟨bs, e, hb⟩ := all_yes hp
      refine ⟨D, bs, rfl, sql (by rw [hy, e]), ?_⟩
      rw [hb]
      exact q H2 s1
/-! ### look_land, look_works, look_case: of those that are -/
def sp_look_land (K : PySem.W.Frag) : Sp := fun vs H Q _ => ∃ a L, vs = [.ref a] ∧ SqT K H a (landV L) ∧ L.length < 30 ∧ WfL L ∧ ∀ H', Same H H' → Q .non H'
theorem c_look_land (T : Txt K mg) : Cal P w K mg base CX0 3 "look_land" ["land"] (sp_look_land K) := by
  refine cal0 T.d_look_land sc_look_land (fun _ _ _ _ _ _ us hl => match us, hl with | [_], _ => rfl) (fun vs H Q E h => ?_) (fun f cdv A outer s H vs Q E hr h => ?_)
  · obtain ⟨a, L, rfl, _⟩ := h
    rfl
  · obtain ⟨a, L, rfl, hS, hL, wf, q⟩ := h
    refine ⟨_, (pss_one (ps_if (pt_not (pt_val (pcall (c_is_land T) (hr.mono (by omega)) (pa_cons (pv 0) pa_nil)))) (pss_one ps_never) pss_nil)), ?_⟩
    refine ⟨_, rfl, a, L, rfl, hS, hL, wf, fun H1 s1 => ⟨true, rfl, iteF (q H1 s1)⟩⟩
def sp_look_works (K : PySem.W.Frag) : Sp := fun vs H Q _ => ∃ a c r e, vs = [.ref a, .int ((e : Nat) : Int)] ∧ SqT K H a (worksV c r) ∧ 1 ≤ c ∧ c ≤ 6 ∧ 2 ≤ r ∧ r ≤ 20 ∧ e ≤ c ∧ Q .non H
/-- a land, works, wants, carts left, as they lie -/
structure CaseAt (K : PySem.W.Frag) (H : Hp) (a b d : Addr) (c : Case) (carts : Nat) : Prop where
  l : SqT K H a (landV c.L)
  k : SqT K H b (worksV carts c.room)
  w : SqT K H d (wantsV c.W)
  n : c.L.length < 30
  wf : WfL c.L
  c1 : 1 ≤ carts
  c6 : carts ≤ 6
  r2 : 2 ≤ c.room
  r20 : c.room ≤ 21
  wl : c.W.length = c.L.length + 1
  wo : WantsOk c.W
  lf : c.left ≤ carts
theorem CaseAt.ext {H H' : Hp} {a b d : Addr} {c : Case} {carts : Nat} (h : CaseAt K H a b d c carts) (s : Ext H H') : CaseAt K H' a b d c carts :=
  ⟨s.t h.l, s.t h.k, s.t h.w, h.n, h.wf, h.c1, h.c6, h.r2, h.r20, h.wl, h.wo, h.lf⟩
theorem CaseAt.same {H H' : Hp} {a b d : Addr} {c : Case} {carts : Nat} (h : CaseAt K H a b d c carts) (s : Same H H') : CaseAt K H' a b d c carts := h.ext (ext_of s)
def sp_look_case (K : PySem.W.Frag) : Sp := fun vs H Q _ => ∃ a b d c carts, vs = [.ref a, .ref b, .ref d, .int ((c.left : Nat) : Int)] ∧ CaseAt K H a b d c carts ∧ c.room ≤ 20 ∧ ∀ H', Same H H' → Q .non H'
end
end Oa
namespace Oat
/-! ### what the tables of partings are like -/
def Good (left m : Nat) (F : Fnd) : Prop := (F.map (·.1)).Nodup ∧ ∀ e ∈ F, e.1 ≤ left ∧ e.2.2.length = m
theorem mem_dput {α : Type} {F : List (Nat × α)} {k : Nat} {a : α} {x : Nat × α} (h : x ∈ dput F k a) : x ∈ F ∨ x = (k, a) := by
  induction F with
  | nil => exact .inr (List.mem_singleton.mp h)
  | cons y F ih =>
    obtain ⟨j, b⟩ := y
    by_cases e : j = k
    · simp only [dput, if_pos e] at h
      rcases List.mem_cons.mp h with h | h
      · exact .inr (by rw [h, e])
      · exact .inl (List.mem_cons_of_mem _ h)
    · simp only [dput, if_neg e] at h
      rcases List.mem_cons.mp h with h | h
      · exact .inl (by rw [h]; exact List.mem_cons_self)
      · rcases ih h with h | h
        · exact .inl (List.mem_cons_of_mem _ h)
        · exact .inr h
theorem mem_dget {α : Type} {F : List (Nat × α)} {k : Nat} {a : α} (h : dget F k = some a) : (k, a) ∈ F := by
  induction F with
  | nil => cases h
  | cons y F ih =>
    obtain ⟨j, b⟩ := y
    by_cases e : j = k
    · simp only [dget, if_pos e] at h
      rw [← Option.some.inj h, e]
      exact List.mem_cons_self
    · simp only [dget, if_neg e] at h
      exact List.mem_cons_of_mem _ (ih h)
theorem good_nil (left m : Nat) : Good left m [] := ⟨List.nodup_nil, fun _ h => by cases h⟩
theorem good_add {left m used : Nat} {u : Int × List Nat} {acc : Fnd} {s : Nat × Int} (g : Good left (m + 1) acc) (hu : u.2.length = m) : Good left (m + 1) (addRow left used u acc s) := by
  unfold addRow
  split
  · rename_i hle
    refine ⟨Oa.dput_keys _ _ _ g.1, fun e he => ?_⟩
    rcases mem_dput he with h | h
    · exact g.2 e h
    · subst h
      refine ⟨hle, ?_⟩
      show (rmin _ _).2.length = m + 1
      unfold rmin
      have hr : (u.2 ++ [s.1]).length = m + 1 := by simp [hu]
      split
      · exact hr
      · cases z : dget acc (used + s.1) with
        | none => exact hr
        | some o => exact (g.2 _ (mem_dget z)).2
  · exact g
theorem good_inner {left m used : Nat} {u : Int × List Nat} (hu : u.2.length = m) : ∀ (t : List (Nat × Int)) (acc : Fnd), Good left (m + 1) acc → Good left (m + 1) (t.foldl (addRow left used u) acc)
  | [], _, g => g
  | _ :: t, _, g => good_inner hu t _ (good_add g hu)
theorem good_mid {left m : Nat} {t : List (Nat × Int)} : ∀ (F : Fnd) (acc : Fnd), (∀ e ∈ F, e.2.2.length = m) → Good left (m + 1) acc → Good left (m + 1) (F.foldl (fun acc e => t.foldl (addRow left e.1 e.2) acc) acc)
  | [], _, _, g => g
  | e :: F, _, h, g => good_mid F _ (fun e he => h e (List.mem_cons_of_mem _ he)) (good_inner (h e List.mem_cons_self) t _ g)
theorem good_step {left m : Nat} {F : Fnd} {t : List (Nat × Int)} (g : Good left m F) : Good left (m + 1) (stepBest left F t) := good_mid F [] (fun e he => (g.2 e he).2) (good_nil _ _)
theorem good_foldl {left : Nat} : ∀ (ts : List (List (Nat × Int))) (m : Nat) (F : Fnd), Good left m F → Good left (m + ts.length) (ts.foldl (stepBest left) F)
  | [], _, _, g => g
  | t :: ts, m, F, g => by
    have := good_foldl ts (m + 1) _ (good_step (t := t) g)
    rw [List.length_cons, show m + (ts.length + 1) = m + 1 + ts.length by omega]
    exact this
theorem good_bestF (ts : List (List (Nat × Int))) (left : Nat) : Good left ts.length (bestF ts left) := by
  have := good_foldl (left := left) ts 0 [(0, (0, []))] ⟨by simp, fun e he => by simp at he; subst he; exact ⟨Nat.zero_le _, rfl⟩⟩
  rw [Nat.zero_add] at this
  exact this
theorem nodup_le : ∀ (n : Nat) (l : List Nat), l.Nodup → (∀ x ∈ l, x < n) → l.length ≤ n
  | 0, l, _, h => by
    cases l with
    | nil => exact Nat.le_refl _
    | cons x l => exact absurd (h x List.mem_cons_self) (Nat.not_lt_zero _)
  | n + 1, l, nd, h => by
    by_cases m : n ∈ l
    · have := nodup_le n (l.erase n) (nd.erase n) fun x hx => by
        have h1 := h x (List.mem_of_mem_erase hx)
        have h2 : x ≠ n := fun e => by
          subst e
          exact (List.Nodup.not_mem_erase nd) hx
        omega
      rw [List.length_erase_of_mem m] at this
      omega
    · have := nodup_le n l nd fun x hx => by
        have h1 := h x hx
        have h2 : x ≠ n := fun e => m (e ▸ hx)
        omega
      omega
theorem Good.len {left m : Nat} {F : Fnd} (g : Good left m F) : F.length ≤ left + 1 := by
  have := nodup_le (left + 1) (F.map (·.1)) g.1 fun x hx => by
    obtain ⟨e, he, rfl⟩ := List.mem_map.mp hx
    have := (g.2 e he).1
    omega
  simpa using this
theorem best_none {ts : List (List (Nat × Int))} {left : Nat} : best ts left = none ↔ bestF ts left = [] := by
  unfold best
  cases bestF ts left <;> simp
theorem bestF_take {ts : List (List (Nat × Int))} {left i : Nat} {t : List (Nat × Int)} (h : ts[i]? = some t) : bestF (ts.take (i + 1)) left = stepBest left (bestF (ts.take i) left) t := by
  unfold bestF
  rw [List.take_add_one, h, List.foldl_append]
  rfl
/-! ### going out -/
def goes (room : Nat) (need : Int) (e : Nat) : Option Int := if e = 0 ∧ need = 0 then some 0 else outF room need e
theorem outF_pos {room e : Nat} {need o : Int} (hr : 2 ≤ room) (h : outF room need e = some o) : 1 ≤ o ∧ (e : Int) ≤ o := by
  unfold outF at h
  split at h
  · have := Option.some.inj h
    omega
  · rename_i c
    split at h
    · cases h
    · rename_i c2
      have h := Option.some.inj h
      have hp : (0 : Int) < (room : Int) - 2 := by omega
      have h1 : ((e : Int) - need) < (-((max e 1 : Nat) : Int)) * ((room : Int) - 2) := by
        rw [Int.neg_mul]
        omega
      have h2 := Int.ediv_lt_of_lt_mul hp h1
      omega
theorem goes_out {room e : Nat} {need : Int} (hr : 2 ≤ room) : (goes room need e).map (fun t => max t 1) = outF room need e := by
  unfold goes
  split
  · rename_i c
    obtain ⟨rfl, rfl⟩ := c
    unfold outF
    rw [if_pos (by simp; omega)]
    rfl
  · cases h : outF room need e with
    | none => rfl
    | some o =>
      have := outF_pos hr h
      simp only [Option.map_some]
      congr 1
      omega
end Oat
namespace Oa
open PySem PySem.Spec PyProof.Rows L2 Oat
section
variable {P : Program} {w : World} {K : PySem.W.Frag} {mg : Str → Option Value} {base : Heap}
def oiV : Option Int → V
  | none => .non
  | some i => .int i
def sp_going_out : Sp := fun vs H Q _ => ∃ (room left : Nat) (need : Int), vs = [.int (room : Int), .int need, .int (left : Int)] ∧ 2 ≤ room ∧ room ≤ 21 ∧ left ≤ 6 ∧ Q (oiV (goes room need left)) H
end
end Oa
namespace Oa
open PySem PySem.Spec PyProof.Rows L2 Oat
section
variable {P : Program} {w : World} {K : PySem.W.Frag} {mg : Str → Option Value} {base : Heap}
/-- the head of a row -/
def HeadAt (K : PySem.W.Frag) (H : Hp) (v : V) (t : Int) : Prop := ∃ p xs, v = .ref p ∧ SqT K H p (.int t :: xs)
theorem HeadAt.tx {H H' : Hp} {v : V} {t : Int} (h : HeadAt K H v t) (x : TExt H H') : HeadAt K H' v t := by
  obtain ⟨p, xs, e, h⟩ := h
  exact ⟨p, xs, e, x.t h⟩
/-- a table: a dict from counts to rows, by their heads -/
def TakAt (K : PySem.W.Frag) (H : Hp) (v : V) (tb : List (Nat × Int)) : Prop := ∃ d kvs, v = .ref d ∧ H d = some (.dK kvs) ∧ PairD (HeadAt K H) kvs tb
theorem TakAt.same {H H' : Hp} {v : V} {tb : List (Nat × Int)} (h : TakAt K H v tb) (s : Same H H') : TakAt K H' v tb := by
  obtain ⟨d, kvs, e, hd, hp⟩ := h
  exact ⟨d, kvs, e, s _ _ hd, pd_imp hp fun _ _ q => q.tx (same_tx s)⟩
def bestV (K : PySem.W.Frag) (H : Hp) (o : Option (Int × List Nat)) (v : V) : Prop := match o with
  | none => v = .non
  | some e => RowAt K H v e
def sp_best_parting (K : PySem.W.Frag) : Sp := fun vs H Q _ => ∃ t xs ts left, vs = [.ref t, .int ((left : Nat) : Int)] ∧ SqL K H t xs ∧ Paired (TakAt K H) xs ts ∧ (∀ tb ∈ ts, (tb.map (·.1)).Nodup) ∧ ts.length ≤ 30 ∧ left ≤ 6 ∧
  ∀ v H', Same H H' → bestV K H' (best ts left) v → Q v H'
theorem paired_at {α β : Type} {R : α → β → Prop} : ∀ {xs : List α} {ys : List β} {i : Nat} {x : α}, Paired R xs ys → xs[i]? = some x → ∃ y, ys[i]? = some y ∧ R x y
  | _, _, i, _, .nil, h => by simp at h
  | _, _, 0, x, .cons (b := y) q _, h => ⟨y, rfl, by
      have := Option.some.inj h
      subst this
      exact q⟩
  | _, _, i + 1, x, .cons _ t, h => by
    obtain ⟨y, h1, h2⟩ := paired_at (i := i) t (by simpa using h)
    exact ⟨y, by simpa using h1, h2⟩
theorem foldl_take {α β : Type} {f : β → α → β} {b : β} {xs : List α} {i : Nat} {x : α} (h : xs[i]? = some x) : (xs.take (i + 1)).foldl f b = f ((xs.take i).foldl f b) x := by
  rw [List.take_add_one, h, List.foldl_append]
  rfl
end
end Oa
namespace Oat
/-! ### is_called, from behind -/
def callAt (L : List Nat) (W : List (Option Nat)) (j q : Nat) : Bool := (W.getD q none).isSome || (kids L q).any fun k => decide (j ≤ k) && wanted L W k
theorem callAt_own {L : List Nat} {W : List (Option Nat)} (wf : WfL L) {k : Nat} (hk : k ≤ L.length) : callAt L W (k + 1) k = wanted L W k := by
  rw [wanted_eq wf hk]
  unfold callAt
  congr 1
  rw [Bool.eq_iff_iff, List.any_eq_true, List.any_eq_true]
  constructor
  · rintro ⟨x, hx, e⟩
    exact ⟨x, hx, (Bool.and_eq_true_iff.mp e).2⟩
  · rintro ⟨x, hx, e⟩
    have := kids_gt wf hx
    exact ⟨x, hx, by rw [e, decide_eq_true (by omega)]; rfl⟩
theorem callAt_low {L : List Nat} {W : List (Option Nat)} (wf : WfL L) {p : Nat} (hp : p ≤ L.length) : callAt L W 1 p = wanted L W p := by
  rw [wanted_eq wf hp]
  unfold callAt
  congr 1
  rw [Bool.eq_iff_iff, List.any_eq_true, List.any_eq_true]
  constructor
  · rintro ⟨x, hx, e⟩
    exact ⟨x, hx, (Bool.and_eq_true_iff.mp e).2⟩
  · rintro ⟨x, hx, e⟩
    have := kids_gt wf hx
    exact ⟨x, hx, by rw [e, decide_eq_true (by omega)]; rfl⟩
theorem callAt_top {L : List Nat} {W : List (Option Nat)} (wf : WfL L) (q : Nat) : callAt L W (L.length + 1) q = (W.getD q none).isSome := by
  unfold callAt
  have : ((kids L q).any fun k => decide (L.length + 1 ≤ k) && wanted L W k) = false := by
    rw [Bool.eq_false_iff]
    intro h
    obtain ⟨x, hx, e⟩ := List.any_eq_true.mp h
    have := kids_gt wf hx
    have := of_decide_eq_true (Bool.and_eq_true_iff.mp e).1
    omega
  rw [this, Bool.or_false]
/-- one turn: place i + 1 -/
theorem callAt_turn {L : List Nat} {W : List (Option Nat)} {i : Nat} (hi : i < L.length) (q : Nat) : callAt L W (i + 1) q = (callAt L W (i + 2) q || (decide (L.getD i 0 = q) && wanted L W (i + 1))) := by
  unfold callAt
  rw [Bool.or_assoc]
  congr 1
  rw [Bool.eq_iff_iff, Bool.or_eq_true, List.any_eq_true, List.any_eq_true]
  simp only [Bool.and_eq_true, decide_eq_true_eq]
  constructor
  · rintro ⟨x, hx, h1, h2⟩
    by_cases e : x = i + 1
    · subst e
      obtain ⟨j, h3, h4, h5⟩ := mem_kids.mp hx
      have : j = i := by omega
      subst this
      exact .inr ⟨h4, h2⟩
    · exact .inl ⟨x, hx, by omega, h2⟩
  · rintro (⟨x, hx, h1, h2⟩ | ⟨h1, h2⟩)
    · exact ⟨x, hx, by omega, h2⟩
    · exact ⟨i + 1, mem_kids.mpr ⟨i, hi, h1, rfl⟩, Nat.le_refl _, h2⟩
end Oat
namespace Oa
open PySem PySem.Spec PyProof.Rows L2 Oat
section
variable {P : Program} {w : World} {K : PySem.W.Frag} {mg : Str → Option Value} {base : Heap}
/-! ### own_need -/
theorem wantsV_get {W : List (Option Nat)} {p : Nat} (h : p < W.length) : (wantsV W)[p]? = some (optV (W.getD p none)) := by
  unfold wantsV
  rw [List.getElem?_map, List.getElem?_eq_getElem h]
  simp [h]
theorem orz {H : Hp} {W : List (Option Nat)} {p : Nat} {tb : TE} {σ : L2.St} {Q : VK} (hb : ∀ Q' : VK, Q' (.int 0) H → tb σ H Q') (q : Q (.int (wantN W p)) H) :
    ∃ k, TruV K (optV (W.getD p none)) H k ∧ if k = true then Q (optV (W.getD p none)) H else tb σ H Q := by
  unfold wantN at q
  cases e : W.getD p none with
  | none =>
    rw [e] at q
    exact ⟨false, rfl, iteF (hb _ q)⟩
  | some u =>
    rw [e] at q
    by_cases hu : u = 0
    · subst hu
      exact ⟨false, rfl, iteF (hb _ q)⟩
    · refine ⟨true, ?_, iteT q⟩
      show true = (((u : Nat) : Int) != 0)
      simp [hu]
def sp_own_need (K : PySem.W.Frag) : Sp := fun vs H Q _ => ∃ t xs ts left d W p, vs = [.int ((p : Nat) : Int), .ref d, .ref t, .int ((left : Nat) : Int)] ∧ SqT K H d (wantsV W) ∧ p < W.length ∧ SqL K H t xs ∧ Paired (TakAt K H) xs ts ∧ (∀ tb ∈ ts, (tb.map (·.1)).Nodup) ∧ ts.length ≤ 30 ∧ left ≤ 6 ∧
  ∀ v H', Same H H' → bestV K H' (needOf W p ts left) v → Q v H'
/-! ### is_called -/
def sp_is_called (K : PySem.W.Frag) : Sp := fun vs H Q _ => ∃ a L d W p, vs = [.ref a, .ref d, .int ((p : Nat) : Int)] ∧ SqT K H a (landV L) ∧ SqT K H d (wantsV W) ∧ WfL L ∧ L.length < 30 ∧ W.length = L.length + 1 ∧ p ≤ L.length ∧
  ∀ H', Same H H' → Q (.bl (wanted L W p)) H'
end
end Oa
namespace Oat
def rowsUp (c : Case) (p : Nat) (ts : List (List (Nat × Int))) (j : Nat) : Tab := (List.range j).filterMap fun e => (rowOf c p ts e).map fun r => (e, r)
theorem rowsUp_succ (c : Case) (p : Nat) (ts : List (List (Nat × Int))) (j : Nat) : rowsUp c p ts (j + 1) = rowsUp c p ts j ++ (match rowOf c p ts j with | none => [] | some r => [(j, r)]) := by
  unfold rowsUp
  rw [List.range_succ, List.filterMap_append]
  congr 1
  cases h : rowOf c p ts j <;> simp [h]
theorem rowsUp_mem {c : Case} {p : Nat} {ts : List (List (Nat × Int))} {j : Nat} {x : Nat × TRow} (h : x ∈ rowsUp c p ts j) : x.1 < j ∧ rowOf c p ts x.1 = some x.2 := by
  unfold rowsUp at h
  obtain ⟨e, he, h⟩ := List.mem_filterMap.mp h
  cases hr : rowOf c p ts e with
  | none => rw [hr] at h; cases h
  | some r =>
    rw [hr] at h
    have := Option.some.inj h
    subst this
    exact ⟨List.mem_range.mp he, hr⟩
theorem dget_none {α : Type} {F : List (Nat × α)} {k : Nat} (h : ∀ x ∈ F, x.1 ≠ k) : dget F k = none := by
  induction F with
  | nil => rfl
  | cons x F ih =>
    obtain ⟨i, a⟩ := x
    have := h (i, a) List.mem_cons_self
    simp only [dget]
    rw [if_neg this]
    exact ih fun y hy => h y (List.mem_cons_of_mem _ hy)
theorem rowsUp_nd (c : Case) (p : Nat) (ts : List (List (Nat × Int))) : ∀ j, ((rowsUp c p ts j).map (·.1)).Nodup
  | 0 => List.nodup_nil
  | j + 1 => by
    rw [rowsUp_succ]
    cases h : rowOf c p ts j with
    | none => rw [List.append_nil]; exact rowsUp_nd c p ts j
    | some r =>
      rw [List.map_append]
      refine L2.nd_snoc (rowsUp_nd c p ts j) fun m => ?_
      obtain ⟨x, hx, e⟩ := List.mem_map.mp m
      have h1 := (rowsUp_mem hx).1
      have h2 : x.1 = j := e
      omega
theorem rowsUp_len (c : Case) (p : Nat) (ts : List (List (Nat × Int))) (j : Nat) : (rowsUp c p ts j).length ≤ j := by
  unfold rowsUp
  have := List.length_filterMap_le (fun e => (rowOf c p ts e).map fun r => (e, r)) (List.range j)
  simpa using this
theorem rowsUp_put {c : Case} {p : Nat} {ts : List (List (Nat × Int))} {j : Nat} {r : TRow} (h : rowOf c p ts j = some r) : dput (rowsUp c p ts j) j r = rowsUp c p ts (j + 1) := by
  rw [Oa.dput_out (dget_none fun x hx => by have := (rowsUp_mem hx).1; omega), rowsUp_succ, h]
theorem tabOf_up (c : Case) (p : Nat) (ts : List (List (Nat × Int))) : tabOf c p ts = rowsUp c p ts (c.left + 1) := rfl
theorem tab_nd {c : Case} (wf : WfL c.L) {p : Nat} (hp : p ≤ c.L.length) : ((tab c p).map (·.1)).Nodup := by
  rw [tab_eq wf hp, tabOf_up]
  exact rowsUp_nd _ _ _ _
theorem takes_nd {t : Tab} (h : (t.map (·.1)).Nodup) : ((takes t).map (·.1)).Nodup := by
  unfold takes
  rw [List.map_map]
  exact h
theorem kids_len (L : List Nat) (p : Nat) : (kids L p).length ≤ L.length := by
  unfold kids
  rw [List.length_map]
  have := List.length_filter_le (fun i => L.getD i 0 == p) (List.range L.length)
  simpa using this
end Oat
namespace Oa
open PySem PySem.Spec PyProof.Rows L2 Oat
section
variable {P : Program} {w : World} {K : PySem.W.Frag} {mg : Str → Option Value} {base : Heap}
/-- a row of the program's tables -/
def PRowAt (K : PySem.W.Frag) (H : Hp) (v : V) (r : TRow) : Prop := ∃ p q, v = .ref p ∧ SqT K H p [.int r.tk, .int r.out, .int r.back, .ref q] ∧ SqT K H q (r.part.map fun (n : Nat) => V.int (n : Int))
theorem PRowAt.tx {H H' : Hp} {v : V} {r : TRow} (h : PRowAt K H v r) (x : TExt H H') : PRowAt K H' v r := by
  obtain ⟨p, q, e, h1, h2⟩ := h
  exact ⟨p, q, e, x.t h1, x.t h2⟩
theorem PRowAt.head {H : Hp} {v : V} {r : TRow} (h : PRowAt K H v r) : HeadAt K H v r.tk := by
  obtain ⟨p, q, e, h1, _⟩ := h
  exact ⟨p, _, e, h1⟩
def optRow (K : PySem.W.Frag) (H : Hp) (o : Option TRow) (v : V) : Prop := match o with
  | none => v = .non
  | some r => PRowAt K H v r
/-! ### taken_for -/
def sp_taken_for (K : PySem.W.Frag) : Sp := fun vs H Q _ => ∃ a b d c carts p v n e, vs = [.ref a, .ref b, .ref d, .int ((p : Nat) : Int), v, .int ((e : Nat) : Int)] ∧ CaseAt K H a b d c carts ∧ p ≤ c.L.length ∧ e ≤ 6 ∧ RowAt K H v n ∧
  ∀ v H', Same H H' → optRow K H' (takenOf c p n e) v → Q v H'
end
end Oa
namespace Oa
open PySem PySem.Spec PyProof.Rows L2 Oat
section
variable {P : Program} {w : World} {K : PySem.W.Frag} {mg : Str → Option Value} {base : Heap}
/-- the tables of all places: a list of dicts -/
structure TabsAt (K : PySem.W.Frag) (H : Hp) (D : Addr) (ds : List Addr) (F : Nat → Tab) : Prop where
  l : H D = some (.lst (ds.map V.ref))
  nd : ds.Nodup
  at_ : ∀ (k : Nat) (d : Addr), ds[k]? = some d → ∃ kvs, H d = some (.dK kvs) ∧ PairD (PRowAt K H) kvs (F k)
theorem TabsAt.same {H H' : Hp} {D : Addr} {ds : List Addr} {F : Nat → Tab} (h : TabsAt K H D ds F) (s : Same H H') : TabsAt K H' D ds F :=
  ⟨s _ _ h.l, h.nd, fun k d e => by
    obtain ⟨kvs, h1, h2⟩ := h.at_ k d e
    exact ⟨kvs, s _ _ h1, pd_imp h2 fun _ _ q => q.tx (same_tx s)⟩⟩
theorem nd_ne {ds : List Addr} (nd : ds.Nodup) {i j : Nat} {a b : Addr} (ha : ds[i]? = some a) (hb : ds[j]? = some b) (h : i ≠ j) : a ≠ b := by
  rintro rfl
  exact h (nd_ix nd ha hb)
theorem TabsAt.put {H : Hp} {D : Addr} {ds : List Addr} {F G : Nat → Tab} {p : Nat} {d : Addr} {kvs : List (Key × V)} (h : TabsAt K H D ds F) (hd : ds[p]? = some d) (hp : PairD (PRowAt K H) kvs (G p)) (hG : ∀ k, k ≠ p → G k = F k) : TabsAt K (upd H d (.dK kvs)) D ds G := by
  obtain ⟨k0, e0, _⟩ := h.at_ p d hd
  have x : TExt H (upd H d (.dK kvs)) := tx_upd (by rw [e0]; trivial)
  refine ⟨?_, h.nd, fun k d' e => ?_⟩
  · rw [upd_ne (ne_of h.l e0 (fun z => nomatch z))]
    exact h.l
  · by_cases hk : k = p
    · subst hk
      have : d' = d := Option.some.inj (e.symm.trans hd)
      subst this
      exact ⟨kvs, upd_same, pd_imp hp fun _ _ q => q.tx x⟩
    · obtain ⟨k1, e1, p1⟩ := h.at_ k d' e
      refine ⟨k1, ?_, ?_⟩
      · rw [upd_ne (nd_ne h.nd e hd hk)]
        exact e1
      · rw [hG k hk]
        exact pd_imp p1 fun _ _ q => q.tx x
theorem pd_heads {H : Hp} : ∀ {kvs : List (Key × V)} {t : Tab}, PairD (PRowAt K H) kvs t → PairD (HeadAt K H) kvs (takes t)
  | _, _, .nil => .nil
  | _, _, .cons a b => .cons ⟨a.1, a.2.head⟩ (pd_heads b)
def sp_tables_of (K : PySem.W.Frag) : Sp := fun vs H Q _ => ∃ a b d c carts, vs = [.ref a, .ref b, .ref d, .int ((c.left : Nat) : Int)] ∧ CaseAt K H a b d c carts ∧
  ∀ D ds H', H D = none → Same H H' → ds.length = c.L.length + 1 → (∀ x ∈ ds, H x = none) → TabsAt K H' D ds (tab c) → Q (.ref D) H'
end
end Oa
namespace Oat
/-! ### the least pair -/
theorem plt_iff {a b : Int × Nat} : plt a b = true ↔ a.1 < b.1 ∨ (a.1 = b.1 ∧ a.2 < b.2) := by
  unfold plt
  split
  · rename_i h
    rw [decide_eq_true_eq]
    omega
  · rename_i h
    rw [decide_eq_true_eq]
    omega
theorem plt_no {a b : Int × Nat} : plt a b = false ↔ ¬ (a.1 < b.1 ∨ (a.1 = b.1 ∧ a.2 < b.2)) := by
  rw [← plt_iff]
  cases plt a b <;> simp
theorem pmin_foldl : ∀ (r : List (Nat × Int)) (m : Int × Nat), (r.foldl (fun m y => pmin m (y.2, y.1)) m = m ∨ ∃ x ∈ r, r.foldl (fun m y => pmin m (y.2, y.1)) m = (x.2, x.1)) ∧ plt m (r.foldl (fun m y => pmin m (y.2, y.1)) m) = false ∧ ∀ x ∈ r, plt (x.2, x.1) (r.foldl (fun m y => pmin m (y.2, y.1)) m) = false
  | [], m => ⟨.inl rfl, plt_no.mpr (by show ¬ (m.1 < m.1 ∨ (m.1 = m.1 ∧ m.2 < m.2)); omega), fun _ h => by cases h⟩
  | y :: r, m => by
    obtain ⟨h1, h2, h3⟩ := pmin_foldl r (pmin m (y.2, y.1))
    rw [List.foldl_cons]
    generalize r.foldl (fun m y => pmin m (y.2, y.1)) (pmin m (y.2, y.1)) = z at h1 h2 h3
    by_cases c : plt (y.2, y.1) m = true
    · have e : pmin m (y.2, y.1) = (y.2, y.1) := if_pos c
      rw [e] at h1 h2
      have c' := plt_iff.mp c
      have h2' := plt_no.mp h2
      refine ⟨.inr ?_, plt_no.mpr (by dsimp only at c' h2' ⊢; omega), fun x hx => ?_⟩
      · rcases h1 with h1 | ⟨x, hx, h1⟩
        · exact ⟨y, List.mem_cons_self, h1⟩
        · exact ⟨x, List.mem_cons_of_mem _ hx, h1⟩
      · rcases List.mem_cons.mp hx with h | h
        · rw [h]; exact h2
        · exact h3 x h
    · have e : pmin m (y.2, y.1) = m := if_neg c
      rw [e] at h1 h2
      have c' := plt_no.mp (Bool.eq_false_iff.mpr c)
      have h2' := plt_no.mp h2
      refine ⟨?_, h2, fun x hx => ?_⟩
      · rcases h1 with h1 | ⟨x, hx, h1⟩
        · exact .inl h1
        · exact .inr ⟨x, List.mem_cons_of_mem _ hx, h1⟩
      · rcases List.mem_cons.mp hx with h | h
        · rw [h]
          exact plt_no.mpr (by dsimp only at c' h2' ⊢; omega)
        · exact h3 x h
theorem bestL_some {tb : List (Nat × Int)} (h : tb ≠ []) : ∃ m : Int × Nat, bestL tb = some m ∧ (m.2, m.1) ∈ tb ∧ ∀ x ∈ tb, plt (x.2, x.1) m = false := by
  cases tb with
  | nil => exact absurd rfl h
  | cons y r =>
    obtain ⟨h1, h2, h3⟩ := pmin_foldl r (y.2, y.1)
    refine ⟨_, rfl, ?_, fun x hx => ?_⟩
    · rcases h1 with h1 | ⟨x, hx, h1⟩
      · rw [h1]; exact List.mem_cons_self
      · rw [h1]; exact List.mem_cons_of_mem _ hx
    · rcases List.mem_cons.mp hx with h | h
      · rw [h]; exact h2
      · exact h3 x h
theorem bestL_none {tb : List (Nat × Int)} : bestL tb = none ↔ tb = [] := by
  cases tb <;> simp [bestL]
theorem bestL_uniq {tb : List (Nat × Int)} {m : Int × Nat} (h : (m.2, m.1) ∈ tb) (hm : ∀ x ∈ tb, plt (x.2, x.1) m = false) : bestL tb = some m := by
  obtain ⟨n, hn, h1, h2⟩ := bestL_some (List.ne_nil_of_mem h)
  have a := plt_no.mp (hm _ h1)
  have b := plt_no.mp (h2 _ h)
  rw [hn]
  congr 1
  dsimp only at a b
  exact Prod.ext (by omega) (by omega)
end Oat
namespace Oa
open PySem PySem.Spec PyProof.Rows L2 Oat
section
variable {P : Program} {w : World} {K : PySem.W.Frag} {mg : Str → Option Value} {base : Heap}
/-! ### best_left -/
def pairV (K : PySem.W.Frag) (H : Hp) (o : Option (Int × Nat)) (v : V) : Prop := match o with
  | none => v = .non
  | some m => ∃ p, v = .ref p ∧ SqT K H p [.int m.1, .int ((m.2 : Nat) : Int)]
def pairK (H : Hp) (v : V) : Int × Int := match v with
  | .ref t => (match H t with
    | some (.tup [.int a, .int b]) => (a, b)
    | _ => (0, 0))
  | _ => (0, 0)
theorem pairK_at {H : Hp} {t : Addr} {a b : Int} (h : H t = some (.tup [.int a, .int b])) : pairK H (.ref t) = (a, b) := by
  simp only [pairK, h]
/-- from turns to items -/
theorem turns_items {α : Type} {Rr : V → α → Prop} {G : List α} {ys : List V} (h : Paired (fun i v => ∃ e, G[i]? = some e ∧ Rr v e) (List.range G.length) ys) : Paired Rr ys G := by
  have : ∀ (F G : List α) (ys : List V), Paired (fun i v => ∃ e, (F ++ G)[i]? = some e ∧ Rr v e) (List.range' F.length G.length) ys → Paired Rr ys G := by
    intro F G
    induction G generalizing F with
    | nil => intro ys h; cases h; exact .nil
    | cons g G ih =>
      intro ys h
      rw [List.length_cons, List.range'_succ] at h
      cases h with
      | cons a b =>
        obtain ⟨e, he, r⟩ := a
        have e1 : e = g := by
          rw [List.getElem?_append_right (Nat.le_refl _), Nat.sub_self] at he
          exact (Option.some.inj he).symm
        subst e1
        refine .cons r (ih (F ++ [e]) _ ?_)
        rw [List.append_assoc, List.length_append]
        exact b
  exact this [] G ys (by rw [List.nil_append, List.length_nil, ← List.range_eq_range']; exact h)
theorem paired_mem {α β : Type} {R : α → β → Prop} : ∀ {xs : List α} {ys : List β} {x : α}, Paired R xs ys → x ∈ xs → ∃ y ∈ ys, R x y
  | _, _, _, .nil, h => by cases h
  | _, _, x, .cons (b := b) q t, h => by
    rcases List.mem_cons.mp h with h | h
    · subst h
      exact ⟨b, List.mem_cons_self, q⟩
    · obtain ⟨y, hy, r⟩ := paired_mem t h
      exact ⟨y, List.mem_cons_of_mem _ hy, r⟩
theorem paired_mem' {α β : Type} {R : α → β → Prop} : ∀ {xs : List α} {ys : List β} {y : β}, Paired R xs ys → y ∈ ys → ∃ x ∈ xs, R x y
  | _, _, _, .nil, h => by cases h
  | _, _, y, .cons (a := a) q t, h => by
    rcases List.mem_cons.mp h with h | h
    · subst h
      exact ⟨a, List.mem_cons_self, q⟩
    · obtain ⟨x, hx, r⟩ := paired_mem' t h
      exact ⟨x, List.mem_cons_of_mem _ hx, r⟩
def sp_best_left (K : PySem.W.Frag) : Sp := fun vs H Q _ => ∃ v tb, vs = [v] ∧ TakAt K H v tb ∧ (tb.map (·.1)).Nodup ∧ tb.length ≤ 100 ∧ ∀ v H', Same H H' → pairV K H' (bestL tb) v → Q v H'
/-! ### least_of -/
theorem tak_of {H : Hp} {D : Addr} {ds : List Addr} {c : Case} (h : TabsAt K H D ds (tab c)) {k : Nat} {d : Addr} (e : ds[k]? = some d) : TakAt K H (.ref d) (takes (tab c k)) := by
  obtain ⟨kvs, z, pz⟩ := h.at_ k d e
  exact ⟨d, kvs, rfl, z, pd_heads pz⟩
theorem tab_len {c : Case} (wf : WfL c.L) {p : Nat} (hp : p ≤ c.L.length) : (tab c p).length ≤ c.left + 1 := by
  rw [tab_eq wf hp, tabOf_up]
  exact rowsUp_len _ _ _ _
theorem takes_len (t : Tab) : (takes t).length = t.length := by simp [takes]
def sp_least_of (K : PySem.W.Frag) : Sp := fun vs H Q _ => ∃ a b d c carts, vs = [.ref a, .ref b, .ref d, .int ((c.left : Nat) : Int)] ∧ CaseAt K H a b d c carts ∧ ∀ H', Same H H' → Q (oiV (least c)) H'
end
end Oa
namespace Oat
/-! ### partings: which counts, what sum -/
inductive Parts : List (List (Nat × Int)) → List Nat → Int → Nat → Prop
  | nil : Parts [] [] 0 0
  | snoc {ts : List (List (Nat × Int))} {part : List Nat} {s : Int} {n : Nat} {tb : List (Nat × Int)} {k : Nat} {t : Int} : Parts ts part s n → (k, t) ∈ tb → Parts (ts ++ [tb]) (part ++ [k]) (s + t) (n + k)
def FndOk (ts : List (List (Nat × Int))) (left : Nat) (F : Fnd) : Prop := ∀ e ∈ F, Parts ts e.2.2 e.2.1 e.1 ∧ e.1 ≤ left
theorem ok_add {ts : List (List (Nat × Int))} {left used : Nat} {u : Int × List Nat} {acc : Fnd} {tb : List (Nat × Int)} {s : Nat × Int} (hu : Parts ts u.2 u.1 used) (hs : s ∈ tb) (h : FndOk (ts ++ [tb]) left acc) : FndOk (ts ++ [tb]) left (addRow left used u acc s) := by
  unfold addRow
  split
  · rename_i hle
    intro e he
    rcases mem_dput he with h1 | h1
    · exact h e h1
    · subst h1
      refine ⟨?_, hle⟩
      have hnew : Parts (ts ++ [tb]) (u.2 ++ [s.1]) (u.1 + s.2) (used + s.1) := .snoc hu hs
      show Parts (ts ++ [tb]) (rmin _ _).2 (rmin _ _).1 (used + s.1)
      unfold rmin
      split
      · exact hnew
      · cases z : dget acc (used + s.1) with
        | none => exact hnew
        | some o => exact (h _ (mem_dget z)).1
  · exact h
theorem ok_inner {ts : List (List (Nat × Int))} {left used : Nat} {u : Int × List Nat} {tb : List (Nat × Int)} (hu : Parts ts u.2 u.1 used) : ∀ (t : List (Nat × Int)) (acc : Fnd), (∀ s ∈ t, s ∈ tb) → FndOk (ts ++ [tb]) left acc → FndOk (ts ++ [tb]) left (t.foldl (addRow left used u) acc)
  | [], _, _, h => h
  | s :: t, _, hs, h => ok_inner hu t _ (fun x hx => hs x (List.mem_cons_of_mem _ hx)) (ok_add hu (hs s List.mem_cons_self) h)
theorem ok_mid {ts : List (List (Nat × Int))} {left : Nat} {tb : List (Nat × Int)} : ∀ (F acc : Fnd), FndOk ts left F → FndOk (ts ++ [tb]) left acc → FndOk (ts ++ [tb]) left (F.foldl (fun acc e => tb.foldl (addRow left e.1 e.2) acc) acc)
  | [], _, _, h => h
  | e :: F, _, hF, h => ok_mid F _ (fun x hx => hF x (List.mem_cons_of_mem _ hx)) (ok_inner (hF e List.mem_cons_self).1 tb _ (fun _ hs => hs) h)
theorem ok_foldl {left : Nat} : ∀ (us ts : List (List (Nat × Int))) (F : Fnd), FndOk ts left F → FndOk (ts ++ us) left (us.foldl (stepBest left) F)
  | [], ts, _, h => by rw [List.append_nil]; exact h
  | u :: us, ts, F, h => by
    have h1 : FndOk (ts ++ [u]) left (stepBest left F u) := ok_mid F [] h (fun _ he => by cases he)
    have := ok_foldl us (ts ++ [u]) _ h1
    rw [List.append_assoc] at this
    exact this
theorem ok_bestF (ts : List (List (Nat × Int))) (left : Nat) : FndOk ts left (bestF ts left) := by
  have := ok_foldl (left := left) ts [] [(0, (0, []))] (fun e he => by
    rw [List.mem_singleton.mp he]
    exact ⟨.nil, Nat.zero_le _⟩)
  exact this
theorem rmin_foldl_mem : ∀ (r : Fnd) (e : Int × List Nat), r.foldl (fun m x => rmin m x.2) e = e ∨ ∃ x ∈ r, r.foldl (fun m x => rmin m x.2) e = x.2
  | [], _ => .inl rfl
  | x :: r, e => by
    rcases rmin_foldl_mem r (rmin e x.2) with h | ⟨y, hy, h⟩
    · rw [List.foldl_cons, h]
      unfold rmin
      split
      · exact .inr ⟨x, List.mem_cons_self, rfl⟩
      · exact .inl rfl
    · exact .inr ⟨y, List.mem_cons_of_mem _ hy, h⟩
theorem best_mem {ts : List (List (Nat × Int))} {left : Nat} {b : Int × List Nat} (h : best ts left = some b) : ∃ n, (n, b) ∈ bestF ts left := by
  unfold best at h
  cases hF : bestF ts left with
  | nil => rw [hF] at h; cases h
  | cons e r =>
    rw [hF] at h
    have h := Option.some.inj h
    rcases rmin_foldl_mem r e.2 with h1 | ⟨x, hx, h1⟩
    · exact ⟨e.1, by rw [← h, h1]; exact List.mem_cons_self⟩
    · exact ⟨x.1, by rw [← h, h1]; exact List.mem_cons_of_mem _ hx⟩
theorem best_parts {ts : List (List (Nat × Int))} {left : Nat} {b : Int × List Nat} (h : best ts left = some b) : ∃ n, n ≤ left ∧ Parts ts b.2 b.1 n := by
  obtain ⟨n, hn⟩ := best_mem h
  have := ok_bestF ts left _ hn
  exact ⟨n, this.2, this.1⟩
theorem Parts.len {ts : List (List (Nat × Int))} {part : List Nat} {s : Int} {n : Nat} (h : Parts ts part s n) : part.length = ts.length := by
  induction h with
  | nil => rfl
  | snoc _ _ ih => simp [ih]
theorem Parts.at_ {ts : List (List (Nat × Int))} {part : List Nat} {s : Int} {n : Nat} (h : Parts ts part s n) : ∀ (i : Nat) (k : Nat), part[i]? = some k → ∃ tb t, ts[i]? = some tb ∧ (k, t) ∈ tb := by
  induction h with
  | nil => intro i k h; simp at h
  | @snoc ts part s n tb k t h hm ih =>
    intro i k' hk
    have hl := h.len
    by_cases hi : i < part.length
    · rw [List.getElem?_append_left hi] at hk
      obtain ⟨tb', t', h1, h2⟩ := ih i k' hk
      exact ⟨tb', t', by rw [List.getElem?_append_left (by omega)]; exact h1, h2⟩
    · have hi2 : i = part.length := by
        have := (List.getElem?_eq_some_iff.mp hk).1
        simp at this
        omega
      subst hi2
      rw [List.getElem?_append_right (Nat.le_refl _), Nat.sub_self] at hk
      have := Option.some.inj hk
      subst this
      exact ⟨tb, t, by rw [hl, List.getElem?_append_right (Nat.le_refl _), Nat.sub_self]; rfl, hm⟩
/-! ### rows of a table -/
theorem tab_row {c : Case} (wf : WfL c.L) {p e : Nat} (hp : p ≤ c.L.length) {r : TRow} (h : dget (tab c p) e = some r) : e ≤ c.left ∧ Oat.rowOf c p ((kids c.L p).map fun k => takes (tab c k)) e = some r := by
  have hm := mem_dget h
  rw [tab_eq wf hp, tabOf_up] at hm
  have := rowsUp_mem hm
  exact ⟨by omega, this.2⟩
theorem takenOf_part {c : Case} {p e : Nat} {n : Int × List Nat} {r : TRow} (h : takenOf c p n e = some r) : r.part = n.2 := by
  unfold takenOf at h
  split at h
  · rw [← Option.some.inj h]
  · split at h
    · rw [← Option.some.inj h]
    · obtain ⟨o, _, rfl⟩ := Option.map_eq_some_iff.mp h
      rfl
theorem rowOf_best {c : Case} {p e : Nat} {ts : List (List (Nat × Int))} {r : TRow} (h : Oat.rowOf c p ts e = some r) : ∃ b, best ts e = some (b, r.part) := by
  unfold Oat.rowOf needOf at h
  cases hb : best ts e with
  | none => rw [hb] at h; cases h
  | some b =>
    rw [hb] at h
    have := takenOf_part h
    exact ⟨b.1, by rw [this]⟩
theorem dget_mem {α : Type} {F : List (Nat × α)} {k : Nat} {a : α} (h : (k, a) ∈ F) : (dget F k).isSome = true := by
  cases z : dget F k with
  | some b => rfl
  | none =>
    have : ∀ x ∈ F, x.1 ≠ k := by
      intro x hx
      induction F with
      | nil => cases hx
      | cons y F ih =>
        obtain ⟨j, b⟩ := y
        simp only [dget] at z
        split at z
        · cases z
        · rename_i hj
          rcases List.mem_cons.mp hx with e | e
          · subst e; exact hj
          · rcases List.mem_cons.mp h with e2 | e2
            · injection e2 with e2 _
              exact absurd e2.symm hj
            · exact ih e2 z e
    exact absurd rfl (this _ h)
theorem dget_takes {t : Tab} {k : Nat} : (dget (takes t) k).isSome = (dget t k).isSome := by
  induction t with
  | nil => rfl
  | cons x t ih =>
    obtain ⟨j, r⟩ := x
    show (dget ((j, r.tk) :: takes t) k).isSome = _
    simp only [dget]
    split
    · rfl
    · exact ih
theorem tab_part {c : Case} (wf : WfL c.L) {p e : Nat} (hp : p ≤ c.L.length) {r : TRow} (h : dget (tab c p) e = some r) :
    r.part.length = (kids c.L p).length ∧ ∀ (i k : Nat), r.part[i]? = some k → ∃ kid, (kids c.L p)[i]? = some kid ∧ (dget (tab c kid) k).isSome = true := by
  obtain ⟨_, hr⟩ := tab_row wf hp h
  obtain ⟨b, hb⟩ := rowOf_best hr
  obtain ⟨n, _, hP⟩ := best_parts hb
  have hl := hP.len
  rw [List.length_map] at hl
  refine ⟨hl, fun i k hk => ?_⟩
  obtain ⟨tb, t, h1, h2⟩ := hP.at_ i k hk
  rw [List.getElem?_map] at h1
  obtain ⟨kid, h3, rfl⟩ := Option.map_eq_some_iff.mp h1
  exact ⟨kid, h3, by rw [← dget_takes]; exact dget_mem h2⟩
/-! ### the told way -/
def setKids (cs : List Nat) (ks part : List Nat) : List Nat := (ks.zip part).foldl (fun cs x => cs.set x.1 x.2) cs
def cntStep (c : Case) (cs : List Nat) (p : Nat) : List Nat := match dget (tab c p) (cs.getD p 0) with
  | none => cs
  | some r => setKids cs (kids c.L p) r.part
def counts (c : Case) (e : Nat) : List Nat := (List.range (c.L.length + 1)).foldl (cntStep c) ((List.replicate (c.L.length + 1) 0).set 0 e)
def told (c : Case) : Option (List Nat) := (bestL (takes (tab c 0))).map fun m => counts c m.2
theorem setKids_len (ks part : List Nat) : ∀ cs : List Nat, (setKids cs ks part).length = cs.length := by
  unfold setKids
  generalize ks.zip part = l
  induction l with
  | nil => intro cs; rfl
  | cons x l ih => intro cs; rw [List.foldl_cons, ih, List.length_set]
theorem kids_nd (L : List Nat) (p : Nat) : (kids L p).Nodup := by
  unfold kids
  have h1 : ((List.range L.length).filter fun i => L.getD i 0 == p).Nodup := List.Nodup.sublist List.filter_sublist List.nodup_range
  refine List.Pairwise.map _ (fun a b (h : a ≠ b) => ?_) h1
  show a + 1 ≠ b + 1
  omega
theorem setKids_out {ks part cs : List Nat} {q : Nat} (h : q ∉ ks) : (setKids cs ks part)[q]? = cs[q]? := by
  unfold setKids
  have hz : ∀ x ∈ ks.zip part, x.1 ≠ q := fun x hx e => h (e ▸ (List.of_mem_zip (a := x.1) (b := x.2) hx).1)
  revert cs hz
  generalize ks.zip part = l
  induction l with
  | nil => intro cs _; rfl
  | cons x l ih =>
    intro cs hz
    rw [List.foldl_cons, ih (fun y hy => hz y (List.mem_cons_of_mem _ hy)), List.getElem?_set_ne (hz x List.mem_cons_self)]
theorem setKids_at : ∀ {ks part cs : List Nat} {i q k : Nat}, ks.Nodup → ks[i]? = some q → part[i]? = some k → q < cs.length → (setKids cs ks part)[q]? = some k
  | [], _, _, i, _, _, _, h, _, _ => by simp at h
  | _ :: _, [], _, i, _, _, _, _, h, _ => by simp at h
  | x :: ks, y :: part, cs, 0, q, k, nd, h1, h2, hq => by
    have h1 := Option.some.inj h1
    have h2 := Option.some.inj h2
    subst h1 h2
    show (setKids (cs.set x y) ks part)[x]? = some y
    rw [setKids_out (List.nodup_cons.mp nd).1, List.getElem?_set_self (by simpa using hq)]
  | x :: ks, y :: part, cs, i + 1, q, k, nd, h1, h2, hq => by
    show (setKids (cs.set x y) ks part)[q]? = some k
    exact setKids_at (List.nodup_cons.mp nd).2 (by simpa using h1) (by simpa using h2) (by simpa using hq)
/-- all places that are known so far have a row -/
def Known (c : Case) (i : Nat) (cs : List Nat) : Prop := cs.length = c.L.length + 1 ∧ ∀ p, p ≤ c.L.length → (p = 0 ∨ c.L.getD (p - 1) 0 < i) → (dget (tab c p) (cs.getD p 0)).isSome = true
theorem known_step {c : Case} (wf : WfL c.L) {i : Nat} {cs : List Nat} (hi : i ≤ c.L.length) (h : Known c i cs) : Known c (i + 1) (cntStep c cs i) ∧ ∃ r, dget (tab c i) (cs.getD i 0) = some r ∧ cntStep c cs i = setKids cs (kids c.L i) r.part := by
  have hk : (dget (tab c i) (cs.getD i 0)).isSome = true := h.2 i hi (by
    by_cases z : i = 0
    · exact .inl z
    · have := wf (i - 1) (by omega)
      exact .inr (by omega))
  obtain ⟨r, hr⟩ := Option.isSome_iff_exists.mp hk
  have he : cntStep c cs i = setKids cs (kids c.L i) r.part := by
    unfold cntStep
    rw [hr]
  refine ⟨?_, r, hr, he⟩
  rw [he]
  obtain ⟨hl, hp⟩ := tab_part wf hi hr
  refine ⟨by rw [setKids_len]; exact h.1, fun p hpl hpp => ?_⟩
  by_cases hm : p ∈ kids c.L i
  · obtain ⟨j, hj⟩ := List.getElem?_of_mem hm
    have hjl : j < r.part.length := by rw [hl]; exact (List.getElem?_eq_some_iff.mp hj).1
    obtain ⟨kid, h1, h2⟩ := hp j r.part[j] (List.getElem?_eq_getElem hjl)
    have : kid = p := Option.some.inj (h1.symm.trans hj)
    subst this
    rw [List.getD_eq_getElem?_getD, setKids_at (kids_nd _ _) hj (List.getElem?_eq_getElem hjl) (by rw [h.1]; omega)]
    exact h2
  · rw [List.getD_eq_getElem?_getD, setKids_out hm, ← List.getD_eq_getElem?_getD]
    refine h.2 p hpl ?_
    rcases hpp with z | z
    · exact .inl z
    · by_cases z0 : p = 0
      · exact .inl z0
      · right
        have : c.L.getD (p - 1) 0 ≠ i := fun e => hm (mem_kids.mpr ⟨p - 1, by omega, e, by omega⟩)
        omega
theorem known_start {c : Case} {m : Int × Nat} (h : bestL (takes (tab c 0)) = some m) : Known c 0 ((List.replicate (c.L.length + 1) 0).set 0 m.2) := by
  refine ⟨by simp, fun p hp hpp => ?_⟩
  have z : p = 0 := by
    rcases hpp with z | z
    · exact z
    · exact absurd z (Nat.not_lt_zero _)
  subst z
  have e : ((List.replicate (c.L.length + 1) 0).set 0 m.2).getD 0 0 = m.2 := by simp
  rw [e]
  obtain ⟨n, h1, h2, _⟩ := bestL_some (tb := takes (tab c 0)) (fun z => by rw [z] at h; cases h)
  have : n = m := Option.some.inj (h1.symm.trans h)
  subst this
  rw [← dget_takes]
  exact dget_mem h2
theorem known_upto {c : Case} (wf : WfL c.L) {m : Int × Nat} (h : bestL (takes (tab c 0)) = some m) : ∀ i, i ≤ c.L.length + 1 → Known c i ((List.range i).foldl (cntStep c) ((List.replicate (c.L.length + 1) 0).set 0 m.2))
  | 0, _ => known_start h
  | i + 1, hi => by
    rw [List.range_succ, List.foldl_append]
    exact (known_step wf (by omega) (known_upto wf h i (by omega))).1
end Oat
namespace Oa
open PySem PySem.Spec PyProof.Rows L2 Oat
section
variable {P : Program} {w : World} {K : PySem.W.Frag} {mg : Str → Option Value} {base : Heap}
/-! ### least -/
def sp_least (K : PySem.W.Frag) : Sp := fun vs H Q _ => ∃ a b d c carts, vs = [.ref a, .ref b, .ref d, .int ((c.left : Nat) : Int)] ∧ CaseAt K H a b d c carts ∧ c.room ≤ 20 ∧ ∀ H', Same H H' → Q (oiV (least c)) H'
/-! ### told_way -/
def toldV (H0 H : Hp) (o : Option (List Nat)) (v : V) : Prop := match o with
  | none => v = .non
  | some cs => ∃ l, v = .ref l ∧ H0 l = none ∧ H l = some (.lst (cs.map fun (n : Nat) => V.int (n : Int)))
def sp_told_way (K : PySem.W.Frag) : Sp := fun vs H Q _ => ∃ a b d c carts, vs = [.ref a, .ref b, .ref d, .int ((c.left : Nat) : Int)] ∧ CaseAt K H a b d c carts ∧ ∀ v H', Same H H' → toldV H H' (told c) v → Q v H'
theorem foldl_range_succ {α : Type} {f : α → Nat → α} {a : α} (n : Nat) : (List.range (n + 1)).foldl f a = f ((List.range n).foldl f a) n := by
  rw [List.range_succ, List.foldl_append]
  rfl
theorem map_set_int (cs : List Nat) (i k : Nat) : (cs.map fun (n : Nat) => V.int (n : Int)).set i (.int (k : Int)) = (cs.set i k).map fun (n : Nat) => V.int (n : Int) := by
  rw [List.map_set]
theorem ixN_nat {n j : Nat} (h : j < n) : ixN n (j : Int) = some j := by
  unfold ixN
  rw [if_pos (by omega), if_pos (by omega)]
  simp
end
end Oa
namespace Oa
open PySem PySem.Spec PyProof.Rows L2 Oat
section
variable {P : Program} {w : World} {K : PySem.W.Frag} {mg : Str → Option Value} {base : Heap}
/-! ### the law's town: a list of a list of ints and a count -/
structure Town (t n : Addr) (H : Hp) : Prop where
  ne : t ≠ n
  ex : ∃ (i : Int) (xs : List Int), H t = some (.lst [.ref n, .int i]) ∧ H n = some (.lst (xs.map V.int)) ∧ xs ≠ []
def TSame (t n : Addr) (H H' : Hp) : Prop := ∀ a o, a ≠ t → a ≠ n → H a = some o → H' a = some o
theorem TSame.refl {t n : Addr} (H : Hp) : TSame t n H H := fun _ _ _ _ e => e
theorem TSame.trans {t n : Addr} {H H1 H2 : Hp} (a : TSame t n H H1) (b : TSame t n H1 H2) : TSame t n H H2 := fun x o h1 h2 e => b x o h1 h2 (a x o h1 h2 e)
theorem tsame_of {t n : Addr} {H H' : Hp} (s : Same H H') : TSame t n H H' := fun a o _ _ e => s a o e
theorem Town.is_l {t n : Addr} {H : Hp} (h : Town t n H) : (∃ l, H t = some (.lst l)) ∧ ∃ l, H n = some (.lst l) := by
  obtain ⟨_, i, xs, h1, h2, _⟩ := h
  exact ⟨⟨_, h1⟩, ⟨_, h2⟩⟩
theorem Town.not_t {t n : Addr} {H : Hp} (h : Town t n H) {a : Addr} {o : HO} (e : H a = some o) (ho : ∀ l, o ≠ .lst l) : a ≠ t ∧ a ≠ n := by
  obtain ⟨⟨l, h1⟩, ⟨m, h2⟩⟩ := h.is_l
  constructor
  · rintro rfl
    rw [h1] at e
    exact ho l (Option.some.inj e).symm
  · rintro rfl
    rw [h2] at e
    exact ho m (Option.some.inj e).symm
theorem Town.fresh {t n : Addr} {H : Hp} (h : Town t n H) {a : Addr} (e : H a = none) : a ≠ t ∧ a ≠ n := by
  obtain ⟨⟨l, h1⟩, ⟨m, h2⟩⟩ := h.is_l
  exact ⟨fun z => (by rw [z, h1] at e; cases e), fun z => (by rw [z, h2] at e; cases e)⟩
theorem Town.same {t n : Addr} {H H' : Hp} (h : Town t n H) (s : Same H H') : Town t n H' := by
  obtain ⟨h0, i, xs, h1, h2, h3⟩ := h
  exact ⟨h0, i, xs, s _ _ h1, s _ _ h2, h3⟩
theorem Town.upd {t n : Addr} {H : Hp} (h : Town t n H) {a : Addr} {o : HO} (h1 : a ≠ t) (h2 : a ≠ n) : Town t n (upd H a o) := by
  obtain ⟨h0, i, xs, e1, e2, h3⟩ := h
  exact ⟨h0, i, xs, by rw [upd_ne h1.symm]; exact e1, by rw [upd_ne h2.symm]; exact e2, h3⟩
theorem Town.t {t n : Addr} {H H' : Hp} (h : Town t n H) (s : TSame t n H H') {a : Addr} {xs : List V} (e : SqT K H a xs) : SqT K H' a xs := by
  rcases e with (e | ⟨o, e⟩) | e
  · have := h.not_t e (fun l z => nomatch z)
    exact .inl (.inl (s _ _ this.1 this.2 e))
  · have := h.not_t e (fun l z => nomatch z)
    exact .inl (.inr ⟨o, s _ _ this.1 this.2 e⟩)
  · exact .inr e
theorem tsame_mut {t n : Addr} {H H' : Hp} {p : Addr} {o : HO} (e : TSame t n H H') (h : H p = none) : TSame t n H (upd H' p o) := fun a u h1 h2 ha => by
  rw [upd_ne (ne_of_none ha h)]
  exact e a u h1 h2 ha
/-! ### _law_town -/
def sp_law_town (K : PySem.W.Frag) : Sp := fun vs H Q _ => ∃ (a : Addr) (ns : List Int), vs = [.ref a] ∧ SqL K H a (ns.map V.int) ∧ ∀ t n H', Town t n H' → Same H H' → Q (.ref t) H'
theorem c__law_town (T : Txt K mg) : Cal P w K mg base CX0 1 "_law_town" ["script"] (sp_law_town K) := by
  refine cal0 T.d__law_town sc__law_town (fun _ _ _ _ _ _ us hl => match us, hl with | [_], _ => rfl) (fun vs H Q E h => ?_) (fun f cdv A outer s H vs Q E hr h => ?_)
  · obtain ⟨a, ns, rfl, _⟩ := h
    rfl
  · obtain ⟨a, ns, rfl, hS, q⟩ := h
    refine ⟨_, (pss_one (ps_ret (pe_lst (pa_cons (pe_ifExp (pt_cmpR (op_neLE K hr.units0) (pv 0) (pe_lst pa_nil) (nomark _)) (pe_callTy (listOf K) rfl T.b_list (by decide +kernel) (pa_cons (pv 0) pa_nil)) (pe_lst (pa_cons pe_int pa_nil))) (pa_cons pe_int pa_nil))))), ?_⟩
    refine ⟨_, rfl, ⟨by show 0 ≤ sizeLine; exact Nat.zero_le _, fun z nz => ?_⟩⟩
    have s1 : Same H (upd H z (.lst [])) := same_new nz
    refine ⟨a, z, _, rfl, rfl, same_l s1 hS, sql upd_same, _, rfl, ?_⟩
    have fin : ∀ (n : Addr) (H2 : Hp) (xs : List Int), Same H H2 → H2 n = some (.lst (xs.map V.int)) → xs ≠ [] → ∀ t, H2 t = none → Q (.ref t) (upd H2 t (.lst [.ref n, .int 0])) := fun n H2 xs s2 hn hx t ht => by
      have hne : t ≠ n := fun z => by rw [z, hn] at ht; cases ht
      exact q t n _ ⟨hne, 0, xs, upd_same, by rw [upd_ne hne.symm]; exact hn, hx⟩ (s2.trans (same_new ht))
    cases ns with
    | nil =>
      refine iteF ⟨by show 1 ≤ sizeLine; decide, fun n hn => ?_⟩
      refine ⟨by show 2 ≤ sizeLine; decide, fun t ht => ?_⟩
      exact fin n _ [0] (s1.trans (same_new hn)) upd_same (by simp) t ht
    | cons x xs =>
      refine iteT ?_
      refine ⟨_, rfl, a, _, rfl, .inl (same_l s1 hS), fun n hn => ?_⟩
      refine ⟨by show 2 ≤ sizeLine; decide, fun t ht => ?_⟩
      exact fin n _ (x :: xs) (s1.trans (same_new hn)) upd_same (by simp) t ht
/-! ### _law_draw -/
def sp_law_draw : Sp := fun vs H Q _ => ∃ t n c, vs = [.ref t, .int ((c : Nat) : Int)] ∧ Town t n H ∧ 1 ≤ c ∧ c < 1073741824 ∧ ∀ (r : Nat) H', r < c → Town t n H' → TSame t n H H' → Q (.int (r : Int)) H'
theorem emod_nat {x : Int} {c : Nat} (h : 1 ≤ c) : ∃ r : Nat, x % (c : Int) = (r : Int) ∧ r < c := by
  have h1 := Int.emod_nonneg x (show (c : Int) ≠ 0 by omega)
  have h2 := Int.emod_lt_of_pos x (show 0 < (c : Int) by omega)
  exact ⟨(x % (c : Int)).toNat, by omega, by omega⟩
theorem c__law_draw (T : Txt K mg) : Cal P w K mg base CX0 1 "_law_draw" ["town", "count"] sp_law_draw := by
  refine cal0 T.d__law_draw sc__law_draw (fun _ _ _ _ _ _ us hl => match us, hl with | [_, _], _ => rfl) (fun vs H Q E h => ?_) (fun f cdv A outer s H vs Q E hr h => ?_)
  · obtain ⟨t, n, c, rfl, _⟩ := h
    rfl
  · obtain ⟨t, n, c, rfl, ⟨hne, i, xs, ht, hn, hx⟩, h1, h2, q⟩ := h
    refine ⟨_, (pss_cons (ps_set (i := 2) sc__law_draw.nd rfl (Or.inl rfl) (pe_ix (ixL K) (pv 0) pe_int (fun _ _ => rfl)))
      (pss_cons (ps_asg (pe_op op_add (pe_ix (ixL K) (pv 0) pe_int (fun _ _ => rfl)) pe_int) (pg_sub (pv 0) pe_int set_list))
      (pss_cons (ps_set (i := 3) sc__law_draw.nd rfl (Or.inl rfl) (pe_op op_mod (pe_ix (ixL K) (pv 0) pe_int (fun _ _ => rfl)) (pe_callB (lenS K) rfl T.b_len PySem.boot_len (pa_cons (pv 2) pa_nil))))
      (pss_cons (ps_set (i := 4) sc__law_draw.nd rfl (Or.inl rfl) (pe_ix (ixL K) (pv 2) (pv 3) (fun _ _ => rfl)))
      (pss_cons (ps_if (pt_cmpR op_ge (pv 4) pe_int (nomark _)) (pss_cons (ps_asg (pe_op op_fdiv (pv 4) (pv 1)) (pg_sub (pv 2) (pv 3) set_list))
      (pss_one (ps_ret (pe_op op_mod (pv 4) (pv 1))))) pss_nil)
      (pss_cons (ps_set (i := 5) sc__law_draw.nd rfl (Or.inl rfl) (pe_op op_mod (pe_op op_add (pv 4) (pe_op op_mul pe_int (pe_ix (ixL K) (pv 0) pe_int (fun _ _ => rfl)))) pe_int))
      (pss_cons (ps_set (i := 5) sc__law_draw.nd rfl (Or.inl rfl) (pe_op op_mod (pe_op op_pow (pv 5) pe_int) pe_int))
      (pss_one (ps_ret (pe_op op_mod (pe_op op_fdiv (pe_op op_mod (pe_op op_add (pe_op op_mul (pe_op op_fdiv (pv 5) pe_int) pe_int) (pv 5)) pe_int) pe_int) (pv 1))))))))))), ?_⟩
    refine ⟨_, rfl, t, _, 0, .ref n, rfl, rfl, sql ht, rfl, ?_⟩
    refine ⟨_, rfl, t, _, 1, .int i, rfl, rfl, sql ht, rfl, _, _, rfl, rfl, ?_⟩
    refine ⟨_, rfl, t, _, 1, 1, rfl, rfl, ht, rfl, ?_⟩
    have ht2 : (upd H t (.lst [.ref n, .int (i + 1)])) t = some (.lst [.ref n, .int (i + 1)]) := upd_same
    have hn2 : (upd H t (.lst [.ref n, .int (i + 1)])) n = some (.lst (xs.map V.int)) := by rw [upd_ne hne.symm]; exact hn
    have s2 : TSame t n H (upd H t (.lst [.ref n, .int (i + 1)])) := fun a o ha _ e => by rw [upd_ne ha]; exact e
    show (tSeq _ _) _ [_, _, _, _, _, _] (upd H t (.lst [.ref n, .int (i + 1)]))
    generalize (upd H t (.lst [.ref n, .int (i + 1)])) = H2 at ht2 hn2 s2
    have hl : 1 ≤ xs.length := by cases xs with | nil => exact absurd rfl hx | cons _ _ => simp
    obtain ⟨r, hr1, hr2⟩ := emod_nat (x := i + 1) hl
    have hlm : (xs.map V.int).length = xs.length := by simp
    refine ⟨_, rfl, t, _, 1, .int (i + 1), rfl, rfl, sql ht2, rfl, _, rfl, n, _, rfl, .inl (sql hn2), _, _, rfl, rfl, by omega, ?_⟩
    dsimp only
    rw [hlm, hr1]
    have hxr : (xs.map V.int)[r]? = some (.int xs[r]) := by rw [List.getElem?_map, List.getElem?_eq_getElem hr2]; rfl
    refine ⟨_, rfl, _, rfl, n, _, _, .int xs[r], rfl, rfl, sql hn2, atI_nat hxr, ?_⟩
    generalize xs[r] = cell
    refine ⟨_, rfl, _, _, rfl, rfl, _, rfl, ite2 (fun c1 => ?_) (fun c1 => ?_)⟩
    · refine ⟨_, rfl, _, rfl, _, _, rfl, rfl, ⟨by omega, by omega⟩, ?_⟩
      refine ⟨_, rfl, _, rfl, n, _, _, r, rfl, rfl, hn2, ixN_nat (by omega), ?_⟩
      refine ⟨_, rfl, _, rfl, _, _, rfl, rfl, by omega, ?_⟩
      obtain ⟨k, hk1, hk2⟩ := emod_nat (x := cell) h1
      dsimp only
      rw [hk1]
      refine q k _ hk2 ⟨hne, i + 1, xs.set r (cell / (c : Int)), by rw [upd_ne hne]; exact ht2, ?_, ?_⟩ (fun a o ha hb e => by rw [upd_ne hb]; exact s2 a o ha hb e)
      · rw [upd_same, List.map_set]
      · intro z
        exact hx (by simpa using z)
    · refine ⟨_, rfl, _, rfl, t, _, 1, .int (i + 1), rfl, rfl, sql ht2, rfl, _, _, rfl, rfl, .inl ⟨by decide, by decide⟩, _, _, rfl, rfl, _, _, rfl, rfl, (by dsimp only; decide), ?_⟩
      obtain ⟨m1, hm1, hm2⟩ := emod_nat (x := cell + 104729 * (i + 1)) (c := 4294967291) (by decide)
      have hm1 : (cell + 104729 * (i + 1)) % 4294967291 = (m1 : Int) := hm1
      dsimp only
      rw [hm1]
      refine ⟨_, rfl, _, _, rfl, rfl, ⟨by decide, by decide, by omega⟩, _, _, rfl, rfl, (by dsimp only; decide), ?_⟩
      obtain ⟨m2, hq1, hq2⟩ := emod_nat (x := (m1 : Int) ^ (5 : Int).toNat) (c := 4294967279) (by decide)
      have hq1 : (m1 : Int) ^ (5 : Int).toNat % 4294967279 = (m2 : Int) := hq1
      dsimp only
      rw [hq1]
      refine ⟨_, rfl, _, _, rfl, rfl, ⟨by decide, by decide⟩, _, _, rfl, rfl, .inr ⟨by decide, by decide⟩, _, rfl, _, _, rfl, rfl, _, _, rfl, rfl, (by dsimp only; decide), _, _, rfl, rfl, ⟨by decide, by decide⟩, _, rfl, _, _, rfl, rfl, by omega, ?_⟩
      obtain ⟨k, hk1, hk2⟩ := emod_nat (x := ((m2 : Int) / 64 * 69621 + m2) % 4294967231 / 8) h1
      dsimp only
      rw [hk1]
      exact q k _ hk2 ⟨hne, i + 1, xs, ht2, hn2, hx⟩ s2
/-! ### _law_pick -/
def sp_law_pick : Sp := fun vs H Q _ => ∃ t n l xs, vs = [.ref t, .ref l] ∧ Town t n H ∧ H l = some (.lst xs) ∧ l ≠ t ∧ l ≠ n ∧ 1 ≤ xs.length ∧ xs.length < 1000 ∧ ∀ x H', x ∈ xs → Town t n H' → TSame t n H H' → Q x H'
theorem c__law_pick (T : Txt K mg) : Cal P w K mg base CX0 2 "_law_pick" ["town", "some"] sp_law_pick := by
  refine cal0 T.d__law_pick sc__law_pick (fun _ _ _ _ _ _ us hl => match us, hl with | [_, _], _ => rfl) (fun vs H Q E h => ?_) (fun f cdv A outer s H vs Q E hr h => ?_)
  · obtain ⟨t, n, l, xs, rfl, _⟩ := h
    rfl
  · obtain ⟨t, n, l, xs, rfl, hT, hl, h1, h2, h3, h4, q⟩ := h
    refine ⟨_, (pss_one (ps_ret (pe_ix (ixL K) (pv 1) (pcall (c__law_draw T) (hr.mono (by omega)) (pa_cons (pv 0) (pa_cons (pe_callB (lenS K) rfl T.b_len PySem.boot_len (pa_cons (pv 1) pa_nil)) pa_nil))) (fun _ _ => rfl)))), ?_⟩
    refine ⟨_, rfl, _, rfl, _, rfl, l, _, rfl, .inl (sql hl), t, n, xs.length, rfl, hT, h3, by omega, fun r H' hr' hT' s' => ?_⟩
    refine ⟨l, xs, _, xs[r], rfl, rfl, sql (s' _ _ h1 h2 hl), atI_nat (List.getElem?_eq_getElem hr'), ?_⟩
    exact q _ _ (List.getElem_mem hr') hT' s'
/-! ### _law_land -/
def sp_law_land (K : PySem.W.Frag) : Sp := fun vs H Q _ => ∃ t n m, vs = [.ref t, .int ((m + 1 : Nat) : Int)] ∧ Town t n H ∧ m < 1000 ∧ ∀ a L H', L.length = m → WfL L → SqT K H' a (landV L) → Town t n H' → TSame t n H H' → Q (.ref a) H'
theorem wfL_snoc {L : List Nat} {p : Nat} (h : WfL L) (hp : p ≤ L.length) : WfL (L ++ [p]) := by
  intro i hi
  rw [List.length_append, List.length_singleton] at hi
  by_cases e : i < L.length
  · rw [List.getD_eq_getElem?_getD, List.getElem?_append_left e, ← List.getD_eq_getElem?_getD]
    exact h i e
  · have : i = L.length := by omega
    subst this
    rw [List.getD_eq_getElem?_getD, List.getElem?_append_right (Nat.le_refl _), Nat.sub_self]
    exact hp
theorem c__law_land (T : Txt K mg) : Cal P w K mg base CX0 3 "_law_land" ["town", "count"] (sp_law_land K) := by
  refine cal0 T.d__law_land sc__law_land (fun _ _ _ _ _ _ us hl => match us, hl with | [_, _], _ => rfl) (fun vs H Q E h => ?_) (fun f cdv A outer s H vs Q E hr h => ?_)
  · obtain ⟨t, n, m, rfl, _⟩ := h
    rfl
  · obtain ⟨t, n, m, rfl, hT, hm, q⟩ := h
    refine ⟨_, (pss_cons (ps_set (i := 2) sc__law_land.nd rfl (Or.inl rfl) (pe_lst (pa_cons pe_non pa_nil)))
      (pss_cons (ps_for PassesOwn.never rfl (pi_range2 rfl T.b_range (pa_cons pe_int (pa_cons (pv 1) pa_nil))) (pg_name (i := 3) sc__law_land.nd rfl (Or.inl rfl)) (pss_one (ps_expr (pe_bm PySem.F.plainAttrs_list PySem.F.slot_list_append PySem.F.type_list_append mt_append (pv 2) (pa_cons (pcall (c__law_pick T) (hr.mono (by omega)) (pa_cons (pv 0) (pa_cons (pe_lst (pa_cons (pe_op op_sub (pv 3) pe_int) (pa_cons (pe_op op_sub (pv 3) pe_int) (pa_cons (pcall (c__law_draw T) (hr.mono (by omega)) (pa_cons (pv 0) (pa_cons (pv 3) pa_nil))) pa_nil)))) pa_nil))) pa_nil)))))
      (pss_one (ps_ret (pe_callTy (tupOf K) rfl T.b_tuple (by decide +kernel) (pa_cons (pv 2) pa_nil)))))), ?_⟩
    refine ⟨by show 1 ≤ sizeLine; decide, fun p np => ?_⟩
    obtain ⟨pt, pn⟩ := hT.fresh np
    refine ⟨_, rfl, _, _, rfl, ⟨by decide, by decide, by omega, by omega⟩, ?_⟩
    rw [show (((m + 1 : Nat) : Int) - 1).toNat = m by omega]
    refine for_it walk_range (fun i σ H4 => ∃ y L, σ = [some (.ref t), some (.int ((m + 1 : Nat) : Int)), some (.ref p), y] ∧ Town t n H4 ∧ TSame t n H H4 ∧ L.length = i ∧ WfL L ∧ H4 p = some (.lst (landV L)))
      ⟨none, [], rfl, hT.upd pt pn, tsame_mut (TSame.refl _) np, rfl, (fun i hi => absurd hi (Nat.not_lt_zero i)), upd_same⟩ (fun _ _ _ _ _ => trivial) (fun i x σ H4 H5 hi pp y => ?_) (fun σ H4 pp => ?_)
    · obtain ⟨y0, L, rfl, hT4, s4, hl, wf, hp⟩ := pp
      obtain ⟨rfl, rfl⟩ := y
      subst hl
      have e1 : (1 : Int) + (L.length : Int) = ((L.length + 1 : Nat) : Int) := by omega
      have e2 : ((L.length + 1 : Nat) : Int) - 1 = (L.length : Int) := by omega
      dsimp only
      rw [e1]
      refine ⟨_, rfl, .inl ⟨rfl, _, sql hp⟩, _, rfl, _, rfl, _, _, rfl, rfl, _, rfl, _, _, rfl, rfl, _, rfl, _, rfl, t, n, L.length + 1, rfl, hT4, by omega, by omega, fun r H6 hr6 hT6 s6 => ?_⟩
      refine ⟨by show 3 ≤ sizeLine; decide, fun l nl => ?_⟩
      obtain ⟨lt, ln⟩ := hT6.fresh nl
      refine ⟨t, n, l, _, rfl, hT6.upd lt ln, upd_same, lt, ln, by show 1 ≤ 3; decide, by show 3 < 1000; decide, fun x H7 hx hT7 s7 => ?_⟩
      have hp7 : H7 p = some (.lst (landV L)) := s7 _ _ pt pn (by rw [upd_ne (fun z => by rw [← z, s6 _ _ pt pn hp] at nl; cases nl)]; exact s6 _ _ pt pn hp)
      refine ⟨p, _, _, rfl, rfl, hp7, Nat.lt_of_lt_of_le (show (landV L).length < 1001 by rw [landV_len]; omega) (by decide), ?_⟩
      have s47 : TSame t n H5 H7 := s6.trans ((tsame_of (same_new nl)).trans s7)
      obtain ⟨k, hk, rfl⟩ : ∃ k : Nat, k ≤ L.length ∧ x = .int (k : Int) := by
        simp only [List.mem_cons, List.mem_nil_iff, or_false] at hx
        rcases hx with hx | hx | hx
        · exact ⟨L.length, Nat.le_refl _, hx.trans (congrArg V.int e2)⟩
        · exact ⟨L.length, Nat.le_refl _, hx.trans (congrArg V.int e2)⟩
        · exact ⟨r, by omega, hx⟩
      refine ⟨_, L ++ [k], rfl, hT7.upd pt pn, tsame_mut (s4.trans s47) np, by simp, wfL_snoc wf hk, ?_⟩
      rw [upd_same]
      simp [landV]
    · obtain ⟨y0, L, rfl, hT4, s4, hl, wf, hp⟩ := pp
      refine ⟨_, rfl, p, _, rfl, .inl ⟨sql hp, fun a na => ?_⟩⟩
      exact q a L _ hl wf (sqt upd_same) (hT4.same (same_new na)) (s4.trans (tsame_of (same_new na)))
/-! ### _law_wants -/
def sp_law_wants (K : PySem.W.Frag) : Sp := fun vs H Q _ => ∃ t n m o, vs = [.ref t, .int ((m : Nat) : Int), .int ((o : Nat) : Int)] ∧ Town t n H ∧ m < 1000 ∧ 3 ≤ o ∧ o ≤ 999 ∧ ∀ a W H', W.length = m → (∀ u, some u ∈ W → u ≤ o) → SqT K H' a (wantsV W) → Town t n H' → TSame t n H H' → Q (.ref a) H'
theorem c__law_wants (T : Txt K mg) : Cal P w K mg base CX0 3 "_law_wants" ["town", "count", "most_of"] (sp_law_wants K) := by
  refine cal0 T.d__law_wants sc__law_wants (fun _ _ _ _ _ _ us hl => match us, hl with | [_, _, _], _ => rfl) (fun vs H Q E h => ?_) (fun f cdv A outer s H vs Q E hr h => ?_)
  · obtain ⟨t, n, m, o, rfl, _⟩ := h
    rfl
  · obtain ⟨t, n, m, o, rfl, hT, hm, ho3, ho, q⟩ := h
    refine ⟨_, (pss_cons (ps_set (i := 3) sc__law_wants.nd rfl (Or.inl rfl) (pe_lst pa_nil))
      (pss_cons (ps_for PassesOwn.never rfl (pi_range1 rfl T.b_range (pa_cons (pv 1) pa_nil)) (pg_name (i := 4) sc__law_wants.nd rfl (Or.inl rfl)) (pss_one (ps_expr (pe_bm PySem.F.plainAttrs_list PySem.F.slot_list_append PySem.F.type_list_append mt_append (pv 3) (pa_cons (pcall (c__law_pick T) (hr.mono (by omega)) (pa_cons (pv 0) (pa_cons (pe_lst (pa_cons pe_non (pa_cons pe_non (pa_cons pe_int (pa_cons (pcall (c__law_draw T) (hr.mono (by omega)) (pa_cons (pv 0) (pa_cons (pe_op op_add (pv 2) pe_int) pa_nil))) (pa_cons (pcall (c__law_draw T) (hr.mono (by omega)) (pa_cons (pv 0) (pa_cons pe_int pa_nil))) pa_nil)))))) pa_nil))) pa_nil)))))
      (pss_one (ps_ret (pe_callTy (tupOf K) rfl T.b_tuple (by decide +kernel) (pa_cons (pv 3) pa_nil)))))), ?_⟩
    refine ⟨by show 0 ≤ sizeLine; exact Nat.zero_le _, fun p np => ?_⟩
    obtain ⟨pt, pn⟩ := hT.fresh np
    refine ⟨_, rfl, _, rfl, by omega, by omega, ?_⟩
    rw [show (((m : Nat) : Int)).toNat = m by omega]
    refine for_it walk_range (fun i σ H4 => ∃ y W, σ = [some (.ref t), some (.int ((m : Nat) : Int)), some (.int ((o : Nat) : Int)), some (.ref p), y] ∧ Town t n H4 ∧ TSame t n H H4 ∧ W.length = i ∧ (∀ u, some u ∈ W → u ≤ o) ∧ H4 p = some (.lst (wantsV W)))
      ⟨none, [], rfl, hT.upd pt pn, tsame_mut (TSame.refl _) np, rfl, (fun u hu => nomatch hu), upd_same⟩ (fun _ _ _ _ _ => trivial) (fun i x σ H4 H5 hi pp y => ?_) (fun σ H4 pp => ?_)
    · obtain ⟨y0, W, rfl, hT4, s4, hl, wf, hp⟩ := pp
      obtain ⟨rfl, rfl⟩ := y
      subst hl
      refine ⟨_, rfl, .inl ⟨rfl, _, sql hp⟩, _, rfl, _, rfl, _, rfl, _, _, rfl, rfl, t, n, o + 1, rfl, hT4, by omega, by omega, fun r H6 hr6 hT6 s6 => ?_⟩
      refine ⟨_, rfl, t, n, 4, rfl, hT6, by decide, by decide, fun r2 H8 hr8 hT8 s8 => ?_⟩
      refine ⟨by show 5 ≤ sizeLine; decide, fun l nl => ?_⟩
      obtain ⟨lt, ln⟩ := hT8.fresh nl
      refine ⟨t, n, l, _, rfl, hT8.upd lt ln, upd_same, lt, ln, by show 1 ≤ 5; decide, by show 5 < 1000; decide, fun x H7 hx hT7 s7 => ?_⟩
      have s68 := s6.trans s8
      have hp7 : H7 p = some (.lst (wantsV W)) := s7 _ _ pt pn (by rw [upd_ne (fun z => by rw [← z, s68 _ _ pt pn hp] at nl; cases nl)]; exact s68 _ _ pt pn hp)
      refine ⟨p, _, _, rfl, rfl, hp7, Nat.lt_of_lt_of_le (show (wantsV W).length < 1001 by rw [wantsV_len]; omega) (by decide), ?_⟩
      have s47 : TSame t n H5 H7 := s68.trans ((tsame_of (same_new nl)).trans s7)
      obtain ⟨u, hu, rfl⟩ : ∃ u : Option Nat, (∀ k, u = some k → k ≤ o) ∧ x = optV u := by
        simp only [List.mem_cons, List.mem_nil_iff, or_false] at hx
        rcases hx with rfl | rfl | rfl | rfl | rfl
        · exact ⟨none, fun k z => (nomatch z), rfl⟩
        · exact ⟨none, fun k z => (nomatch z), rfl⟩
        · exact ⟨some 0, fun k z => by cases z; omega, rfl⟩
        · exact ⟨some r, fun k z => by cases z; omega, rfl⟩
        · exact ⟨some r2, fun k z => by cases z; omega, rfl⟩
      refine ⟨_, W ++ [u], rfl, hT7.upd pt pn, tsame_mut (s4.trans s47) np, by simp, fun k hk => ?_, ?_⟩
      · rcases List.mem_append.mp hk with hk | hk
        · exact wf k hk
        · exact hu k (List.mem_singleton.mp hk).symm
      · rw [upd_same]
        simp [wantsV]
    · obtain ⟨y0, W, rfl, hT4, s4, hl, wf, hp⟩ := pp
      refine ⟨_, rfl, p, _, rfl, .inl ⟨sql hp, fun a na => ?_⟩⟩
      exact q a W _ hl wf (sqt upd_same) (hT4.same (same_new na)) (s4.trans (tsame_of (same_new na)))
/-! ### _law_works -/
def sp_law_works (K : PySem.W.Frag) : Sp := fun vs H Q _ => ∃ t n, vs = [.ref t] ∧ Town t n H ∧ ∀ b carts room H', 1 ≤ carts → carts ≤ 3 → 2 ≤ room → room ≤ 9 → SqT K H' b (worksV carts room) → Town t n H' → TSame t n H H' → Q (.ref b) H'
/-! ### _law_case -/
def sp_law_case (K : PySem.W.Frag) : Sp := fun vs H Q _ => ∃ t n m o, vs = [.ref t, .int ((m + 1 : Nat) : Int), .int ((o : Nat) : Int)] ∧ Town t n H ∧ m < 30 ∧ 3 ≤ o ∧ o ≤ 999 ∧
  ∀ p a b d c carts H', SqT K H' p [.ref a, .ref b, .ref d, .int ((c.left : Nat) : Int)] → CaseAt K H' a b d c carts → c.L.length = m → carts ≤ 3 → c.room ≤ 9 → (∀ u, some u ∈ c.W → u ≤ o) → Town t n H' → TSame t n H H' → Q (.ref p) H'
end
end Oa
namespace Oa
open PySem PySem.Spec PyProof.Rows L2 Oat
section
variable {P : Program} {w : World} {K : PySem.W.Frag} {mg : Str → Option Value} {base : Heap}
/-! ### _law_after -/
/-! ### _law_is_wanted -/
def sp_law_is_wanted (K : PySem.W.Frag) (m : Nat) : Sp := fun vs H Q _ => ∃ a L d W p, vs = [.ref a, .ref d, .int ((p : Nat) : Int)] ∧ SqT K H a (landV L) ∧ SqT K H d (wantsV W) ∧ WfL L ∧ L.length < 30 ∧ W.length = L.length + 1 ∧ p ≤ L.length ∧ L.length < m + p ∧ ∀ H', Same H H' → Q (.bl (wanted L W p)) H'
theorem wants_at {W : List (Option Nat)} {p : Nat} (h : p < W.length) : (wantsV W)[p]? = some (optV (W.getD p none)) := by
  unfold wantsV
  rw [List.getElem?_map, List.getElem?_eq_getElem h, List.getD_eq_getElem?_getD, List.getElem?_eq_getElem h]
  rfl
theorem filter_any {α : Type} (l : List α) (d : α) (f : α → Bool) : ((List.range l.length).filter fun i => f (l.getD i d)).isEmpty = !l.any f := by
  rw [Bool.eq_iff_iff]
  simp only [List.isEmpty_iff, List.filter_eq_nil_iff, List.mem_range, Bool.not_eq_true', List.any_eq_false]
  constructor
  · intro h x hx
    obtain ⟨i, hi⟩ := List.getElem?_of_mem hx
    have hl := (List.getElem?_eq_some_iff.mp hi).1
    have := h i hl
    rw [List.getD_eq_getElem?_getD, hi] at this
    exact this
  · intro h i hi
    have := h l[i] (List.getElem_mem hi)
    rw [List.getD_eq_getElem?_getD, List.getElem?_eq_getElem hi]
    exact this
/-! ### _law_out -/
def sp_law_out (K : PySem.W.Frag) : Sp := fun vs H Q _ => ∃ b carts room need e, vs = [.ref b, .int need, .int ((e : Nat) : Int)] ∧ SqT K H b (worksV carts room) ∧ 2 ≤ room ∧ room ≤ 21 ∧ e ≤ 6 ∧ Q (oiV (outF room need e)) H
theorem outF_least {room e : Nat} {need o : Int} (hr : 3 ≤ room) (h1 : ((max e 1 : Nat) : Int) ≤ o) (h2 : need ≤ o * ((room : Int) - 2) + e) (h3 : o = ((max e 1 : Nat) : Int) ∨ (o - 1) * ((room : Int) - 2) + e < need) : outF room need e = some o := by
  have hp : (0 : Int) < (room : Int) - 2 := by omega
  have hm : ((max e 1 : Nat) : Int) * ((room : Int) - 2) ≤ o * ((room : Int) - 2) := Int.mul_le_mul_of_nonneg_right h1 (by omega)
  unfold outF
  rcases h3 with h3 | h3
  · rw [← h3, if_pos h2]
  · by_cases c : need ≤ ((max e 1 : Nat) : Int) * ((room : Int) - 2) + e
    · have : ¬ ((max e 1 : Nat) : Int) ≤ o - 1 := fun z => by
        have := Int.mul_le_mul_of_nonneg_right z (show (0 : Int) ≤ (room : Int) - 2 by omega)
        omega
      rw [if_pos c]
      congr 1
      omega
    · rw [if_neg c, if_neg (by omega)]
      congr 1
      have a1 : (-o) * ((room : Int) - 2) ≤ (e : Int) - need := by rw [Int.neg_mul]; omega
      have a2 : (e : Int) - need < (-o + 1) * ((room : Int) - 2) := by
        have : (-o + 1) * ((room : Int) - 2) = -((o - 1) * ((room : Int) - 2)) := by rw [← Int.neg_mul]; congr 1; omega
        omega
      have b1 := (Int.le_ediv_iff_mul_le hp).mpr a1
      have b2 := Int.ediv_lt_of_lt_mul hp a2
      omega
end
end Oa
namespace Oat
theorem range_getD {α : Type} (l : List α) (d : α) : (List.range l.length).map (fun i => l.getD i d) = l := by
  apply List.ext_getElem?
  intro i
  rw [List.getElem?_map]
  by_cases h : i < l.length
  · rw [List.getElem?_range h, List.getElem?_eq_getElem h]
    simp [h]
  · rw [List.getElem?_eq_none (by simpa using h), List.getElem?_eq_none (by omega)]
    rfl
theorem range_filter {α β : Type} (l : List α) (d : α) (g : α → Bool) (h : α → β) : ((List.range l.length).filter fun i => g (l.getD i d)).map (fun i => h (l.getD i d)) = (l.filter g).map h := by
  have e := congrArg (fun x => (List.filter g x).map h) (range_getD l d)
  rw [← e]
  simp only [List.filter_map, List.map_map]
  rfl
theorem foldl_addRow {left used : Nat} {u : Int × List Nat} : ∀ (tb : List (Nat × Int)) (acc : Fnd), (tb.filter fun e => decide (e.1 + used ≤ left)).foldl (addRow left used u) acc = tb.foldl (addRow left used u) acc
  | [], _ => rfl
  | e :: tb, acc => by
    by_cases c : e.1 + used ≤ left
    · rw [List.filter_cons_of_pos (by simpa using c), List.foldl_cons, List.foldl_cons, foldl_addRow tb]
    · rw [List.filter_cons_of_neg (by simpa using c), List.foldl_cons, foldl_addRow tb]
      congr 1
      unfold addRow
      rw [if_neg (by omega)]
theorem dput_self {α : Type} : ∀ {F : List (Nat × α)} {k : Nat} {a : α}, dget F k = some a → dput F k a = F
  | (j, u) :: r, k, a, h => by
    simp only [dget] at h
    simp only [dput]
    split at h
    · rename_i e
      rw [if_pos e, Option.some.inj h]
    · rename_i e
      rw [if_neg e, dput_self h]
end Oat
namespace Oa
open PySem PySem.Spec PyProof.Rows L2 Oat
section
variable {P : Program} {w : World} {K : PySem.W.Frag} {mg : Str → Option Value} {base : Heap}
def sp_law_best (K : PySem.W.Frag) : Sp := fun vs H Q _ => ∃ t xs ts left, vs = [.ref t, .int ((left : Nat) : Int)] ∧ SqL K H t xs ∧ Paired (TakAt K H) xs ts ∧ (∀ tb ∈ ts, (tb.map (·.1)).Nodup ∧ tb.length ≤ 1000) ∧ ts.length ≤ 30 ∧ left ≤ 6 ∧
  ∀ v H', Same H H' → bestV K H' (best ts left) v → Q v H'
end
end Oa
namespace Oa
open PySem PySem.Spec PyProof.Rows L2 Oat
section
variable {P : Program} {w : World} {K : PySem.W.Frag} {mg : Str → Option Value} {base : Heap}
/-! ### _law_table -/
def LRowAt (K : PySem.W.Frag) (H : Hp) (v : V) (r : TRow) : Prop := ∃ p q, v = .ref p ∧ SqT K H p [.int r.tk, .int r.out, .ref q] ∧ SqT K H q (r.part.map fun (n : Nat) => V.int (n : Int))
theorem LRowAt.tx {H H' : Hp} {v : V} {r : TRow} (h : LRowAt K H v r) (x : TExt H H') : LRowAt K H' v r := by
  obtain ⟨p, q, e, h1, h2⟩ := h
  exact ⟨p, q, e, x.t h1, x.t h2⟩
theorem LRowAt.head {H : Hp} {v : V} {r : TRow} (h : LRowAt K H v r) : HeadAt K H v r.tk := by
  obtain ⟨p, q, e, h1, _⟩ := h
  exact ⟨p, _, e, h1⟩
def LTabAt (K : PySem.W.Frag) (H : Hp) (v : V) (t : Tab) : Prop := ∃ d kvs, v = .ref d ∧ H d = some (.dK kvs) ∧ PairD (LRowAt K H) kvs t
theorem LTabAt.same {H H' : Hp} {v : V} {t : Tab} (h : LTabAt K H v t) (s : Same H H') : LTabAt K H' v t := by
  obtain ⟨d, kvs, e, hd, hp⟩ := h
  exact ⟨d, kvs, e, s _ _ hd, pd_imp hp fun _ _ q => q.tx (same_tx s)⟩
theorem tx_sb {H H' : Hp} {D : Addr} {l : List V} (hl : H D = some (.lst l)) (sb : SameBut D H H') : TExt H H' := fun a xs z => by
  have hne : a ≠ D := by
    rintro rfl
    rcases z with z | ⟨ob, z⟩
    · rw [hl] at z
      cases z
    · rw [hl] at z
      cases z
  rcases z with z | ⟨ob, z⟩
  · exact .inl (sb _ _ hne z)
  · exact .inr ⟨ob, sb _ _ hne z⟩
theorem LTabAt.sb {H H' : Hp} {D : Addr} {l : List V} {v : V} {t : Tab} (h : LTabAt K H v t) (hl : H D = some (.lst l)) (sb : SameBut D H H') : LTabAt K H' v t := by
  obtain ⟨d, kvs, e, hd, hp⟩ := h
  exact ⟨d, kvs, e, sb _ _ (ne_of hd hl (fun z => nomatch z)) hd, pd_imp hp fun _ _ q => q.tx (tx_sb hl sb)⟩
theorem pd_lheads {H : Hp} : ∀ {kvs : List (Key × V)} {t : Tab}, PairD (LRowAt K H) kvs t → PairD (HeadAt K H) kvs (takes t)
  | _, _, .nil => .nil
  | _, _, .cons a b => .cons ⟨a.1, a.2.head⟩ (pd_lheads b)
theorem LTabAt.tak {H : Hp} {v : V} {t : Tab} (h : LTabAt K H v t) : TakAt K H v (takes t) := by
  obtain ⟨d, kvs, e, hd, hp⟩ := h
  exact ⟨d, kvs, e, hd, pd_lheads hp⟩
def sp_law_table (K : PySem.W.Frag) (m : Nat) : Sp := fun vs H Q _ => ∃ a b d c carts p, vs = [.ref a, .ref b, .ref d, .int ((p : Nat) : Int), .int ((c.left : Nat) : Int)] ∧ CaseAt K H a b d c carts ∧ p ≤ c.L.length ∧ c.L.length < m + p ∧
  ∀ v H', Same H H' → LTabAt K H' v (tab c p) → Q v H'
theorem paired_map {α β γ : Type} {R : α → β → Prop} {S : α → γ → Prop} {f : β → γ} (h : ∀ x y, R x y → S x (f y)) : ∀ {xs : List α} {ys : List β}, Paired R xs ys → Paired S xs (ys.map f)
  | _, _, .nil => .nil
  | _, _, .cons a b => .cons (h _ _ a) (paired_map h b)
end
end Oa
namespace Oa
open PySem PySem.Spec PyProof.Rows L2 Oat
section
variable {P : Program} {w : World} {K : PySem.W.Frag} {mg : Str → Option Value} {base : Heap}
/-! ### _law_least -/
theorem least_min {c : Case} {m : Int} (h1 : m ∈ (takes (tab c 0)).map (·.2)) (h2 : ∀ y ∈ (takes (tab c 0)).map (·.2), m ≤ y) : least c = some m := by
  unfold least
  have hne : takes (tab c 0) ≠ [] := fun z => by rw [z] at h1; cases h1
  obtain ⟨n, e, hn, hm⟩ := bestL_some hne
  rw [e]
  show some n.1 = some m
  congr 1
  obtain ⟨x, hx, rfl⟩ := List.mem_map.mp h1
  have a := plt_no.mp (hm x hx)
  have b := h2 n.1 (List.mem_map.mpr ⟨(n.2, n.1), hn, rfl⟩)
  dsimp only at a b
  omega
/-! ### blocked -/
def blockedL (c : Case) : List Nat := (List.range (c.L.length + 1)).filter fun k => (tab c k).isEmpty && (kids c.L k).all fun q => !(tab c q).isEmpty
def sp_blocked (K : PySem.W.Frag) : Sp := fun vs H Q _ => ∃ a b d c carts, vs = [.ref a, .ref b, .ref d, .int ((c.left : Nat) : Int)] ∧ CaseAt K H a b d c carts ∧ c.room ≤ 20 ∧ ∀ l H', Same H H' → H' l = some (.lst ((blockedL c).map fun (k : Nat) => V.int (k : Int))) → Q (.ref l) H'
theorem pd_empty {α : Type} {R : V → α → Prop} {kvs : List (Key × V)} {F : List (Nat × α)} (h : PairD R kvs F) : kvs.isEmpty = F.isEmpty := by
  cases h <;> rfl
end
end Oa
namespace Oat
theorem told_known {c : Case} (wf : WfL c.L) {cs : List Nat} (h : told c = some cs) : cs.length = c.L.length + 1 ∧ ∀ p, p ≤ c.L.length → ∃ r, dget (tab c p) (cs.getD p 0) = some r := by
  unfold told at h
  obtain ⟨m, hm, rfl⟩ := Option.map_eq_some_iff.mp h
  have := known_upto wf hm (c.L.length + 1) (Nat.le_refl _)
  refine ⟨this.1, fun p hp => Option.isSome_iff_exists.mp (this.2 p hp ?_)⟩
  by_cases z : p = 0
  · exact .inl z
  · have := wf (p - 1) (by omega)
    exact .inr (by omega)
def timeAt (c : Case) (cs : List Nat) (p : Nat) : Int × Int := match dget (tab c p) (cs.getD p 0) with
  | some r => (r.out, r.back)
  | none => (0, 0)
def timesOf (c : Case) (cs : List Nat) : List (Int × Int) := (List.range c.L.length).map fun i => timeAt c cs (i + 1)
end Oat
namespace Oa
open PySem PySem.Spec PyProof.Rows L2 Oat
section
variable {P : Program} {w : World} {K : PySem.W.Frag} {mg : Str → Option Value} {base : Heap}
mutual
theorem dp_same {H H' : Hp} (s : Same H H') : ∀ {v : V} {d : PyData}, Dp K H v d → Dp K H' v d
  | _, _, .non => .non
  | _, _, .bl b => .bl b
  | _, _, .int i => .int i
  | _, _, .str x => .str x
  | _, _, .lst h a => .lst (same_l s h) (dpAll_same s a)
  | _, _, .tup h a => .tup (same_t s h) (dpAll_same s a)
theorem dpAll_same {H H' : Hp} (s : Same H H') : ∀ {v : List V} {d : List PyData}, DpAll K H v d → DpAll K H' v d
  | _, _, .nil => .nil
  | _, _, .cons a b => .cons (dp_same s a) (dpAll_same s b)
end
mutual
def noLst : PyData → Bool
  | .none | .bool _ | .int _ | .str _ => true
  | .tuple xs => noLstAll xs
  | .list _ | .dict _ => false
def noLstAll : List PyData → Bool
  | [] => true
  | x :: xs => noLst x && noLstAll xs
end
mutual
theorem dp_tx {H H' : Hp} (x : TExt H H') : ∀ {v : V} {d : PyData}, noLst d = true → Dp K H v d → Dp K H' v d
  | _, _, _, .non => .non
  | _, _, _, .bl b => .bl b
  | _, _, _, .int i => .int i
  | _, _, _, .str y => .str y
  | _, _, h, .lst _ _ => by simp [noLst] at h
  | _, _, h, .tup h1 a => .tup (x.t h1) (dpAll_tx x (by simpa only [noLst] using h) a)
theorem dpAll_tx {H H' : Hp} (x : TExt H H') : ∀ {v : List V} {d : List PyData}, noLstAll d = true → DpAll K H v d → DpAll K H' v d
  | _, _, _, .nil => .nil
  | _, _, h, .cons a b => by
    simp only [noLstAll, Bool.and_eq_true] at h
    exact .cons (dp_tx x h.1 a) (dpAll_tx x h.2 b)
end
theorem sql_sb {H H' : Hp} {D l : Addr} {xs : List V} (sb : ∀ b o, b ≠ D → H b = some o → H' b = some o) (hne : l ≠ D) (h : SqL K H l xs) : SqL K H' l xs := by
  rcases h with (h | ⟨o, h⟩) | h
  · exact .inl (.inl (sb _ _ hne h))
  · exact .inl (.inr ⟨o, sb _ _ hne h⟩)
  · exact .inr h
theorem dp_sb {H H' : Hp} {D l : Addr} {zs : List V} {ds : List PyData} (hl : H D = some (.lst zs)) (sb : SameBut D H H') (hne : l ≠ D) (hn : noLstAll ds = true) (h : Dp K H (.ref l) (.list ds)) : Dp K H' (.ref l) (.list ds) := by
  cases h with
  | lst h1 h2 => exact .lst (sql_sb sb hne h1) (dpAll_tx (tx_sb hl sb) hn h2)
theorem noLst_nats : ∀ cs : List Nat, noLstAll (cs.map fun (n : Nat) => .int (n : Int)) = true
  | [] => by simp [noLstAll]
  | c :: cs => by simp only [List.map_cons, noLstAll, noLst, noLst_nats cs, Bool.and_self]
def natsD (cs : List Nat) : PyData := .list (cs.map fun (n : Nat) => .int (n : Int))
def pairD (x : Int × Int) : PyData := .tuple [.int x.1, .int x.2]
def pairsD (xs : List (Int × Int)) : PyData := .list (xs.map pairD)
theorem noLst_pairs : ∀ xs : List (Int × Int), noLstAll (xs.map pairD) = true
  | [] => by simp [noLstAll]
  | c :: cs => by simp only [List.map_cons, noLstAll, pairD, noLst, noLst_pairs cs, Bool.and_self]
theorem dpAll_nats {H : Hp} : ∀ (cs : List Nat), DpAll K H (cs.map fun (n : Nat) => V.int (n : Int)) (cs.map fun (n : Nat) => .int (n : Int))
  | [] => .nil
  | _ :: cs => .cons (.int _) (dpAll_nats cs)
theorem dp_nats {H : Hp} {l : Addr} {cs : List Nat} (h : SqL K H l (cs.map fun (n : Nat) => V.int (n : Int))) : Dp K H (.ref l) (natsD cs) := .lst h (dpAll_nats cs)
/-! ### left_beyond -/
def sp_left_beyond (K : PySem.W.Frag) : Sp := fun vs H Q E => ∃ a b d c carts, vs = [.ref a, .ref b, .ref d, .int ((c.left : Nat) : Int)] ∧ CaseAt K H a b d c carts ∧ c.room ≤ 20 ∧
  (told c = none → ∀ H', Same H H' → E (.ref (He.ga K "NoneSuch")) none H') ∧ (∀ cs, told c = some cs → ∀ l H', Same H H' → H l = none → H' l = some (.lst (cs.map fun (n : Nat) => V.int (n : Int))) → Q (.ref l) H')
/-! ### crossings -/
def sp_crossings (K : PySem.W.Frag) : Sp := fun vs H Q E => ∃ a b d c carts, vs = [.ref a, .ref b, .ref d, .int ((c.left : Nat) : Int)] ∧ CaseAt K H a b d c carts ∧ c.room ≤ 20 ∧
  (told c = none → ∀ H', Same H H' → E (.ref (He.ga K "NoneSuch")) none H') ∧ (∀ cs, told c = some cs → ∀ l H', Same H H' → H l = none → Dp K H' (.ref l) (pairsD (timesOf c cs)) → Q (.ref l) H')
/-! ### _law_refusal -/
def errW (x : Str) : Str := if x = "BadLand" then "land" else if x = "BadWorks" then "works" else if x = "BadWants" then "wants" else if x = "BadPlan" then "plan" else if x = "BadPaper" then "paper" else if x = "BadText" then "text" else "none"
def sp_law_refusal (K : PySem.W.Frag) : Sp := fun vs H Q _ => ∃ a x, vs = [.ref a] ∧ x ∈ errN ∧ H a = some (ExH (.ref (He.ga K x)) none a) ∧ ∀ H', Same H H' → Q (.str (errW x)) H'
theorem c__law_refusal (T : Txt K mg) (R : Errs K mg) : Cal P w K mg base CX0 1 "_law_refusal" ["caught"] (sp_law_refusal K) := by
  refine cal0 T.d__law_refusal sc__law_refusal (fun _ _ _ _ _ _ us hl => match us, hl with | [_], _ => rfl) (fun vs H Q E h => ?_) (fun f cdv A outer s H vs Q E hr h => ?_)
  · obtain ⟨a, x, rfl, _⟩ := h
    rfl
  · obtain ⟨a, x, rfl, hx, hH, q⟩ := h
    refine ⟨_, (pss_cons (ps_set (i := 1) sc__law_refusal.nd rfl (Or.inl rfl) (pe_lst (pa_cons (pe_callB (isH K) rfl T.b_isinstance (by decide +kernel) (pa_cons (pv 0) (pa_cons (pe_glob (v := .ref (He.ga K "BadLand")) rfl (R.ok "BadLand" (by decide +kernel)).g rfl) pa_nil))) (pa_cons (pe_callB (isH K) rfl T.b_isinstance (by decide +kernel) (pa_cons (pv 0) (pa_cons (pe_glob (v := .ref (He.ga K "BadWorks")) rfl (R.ok "BadWorks" (by decide +kernel)).g rfl) pa_nil))) (pa_cons (pe_callB (isH K) rfl T.b_isinstance (by decide +kernel) (pa_cons (pv 0) (pa_cons (pe_glob (v := .ref (He.ga K "BadWants")) rfl (R.ok "BadWants" (by decide +kernel)).g rfl) pa_nil))) pa_nil)))))
      (pss_cons (ps_set (i := 1) sc__law_refusal.nd rfl (Or.inl rfl) (pe_op op_cat (pv 1) (pe_lst (pa_cons (pe_callB (isH K) rfl T.b_isinstance (by decide +kernel) (pa_cons (pv 0) (pa_cons (pe_glob (v := .ref (He.ga K "BadPlan")) rfl (R.ok "BadPlan" (by decide +kernel)).g rfl) pa_nil))) (pa_cons (pe_callB (isH K) rfl T.b_isinstance (by decide +kernel) (pa_cons (pv 0) (pa_cons (pe_glob (v := .ref (He.ga K "BadPaper")) rfl (R.ok "BadPaper" (by decide +kernel)).g rfl) pa_nil))) (pa_cons (pe_callB (isH K) rfl T.b_isinstance (by decide +kernel) (pa_cons (pv 0) (pa_cons (pe_glob (v := .ref (He.ga K "BadText")) rfl (R.ok "BadText" (by decide +kernel)).g rfl) pa_nil))) pa_nil))))))
      (pss_cons (ps_set (i := 1) sc__law_refusal.nd rfl (Or.inl rfl) (pe_op op_cat (pv 1) (pe_lst (pa_cons (pe_callB (isH K) rfl T.b_isinstance (by decide +kernel) (pa_cons (pv 0) (pa_cons (pe_glob (v := .ref (He.ga K "NoneSuch")) rfl (R.ok "NoneSuch" (by decide +kernel)).g rfl) pa_nil))) pa_nil))))
      (pss_cons (ps_if (PW.pt (pw_or (pt_cmpR op_ne (pe_bm PySem.F.plainAttrs_list PySem.F.slot_list_count PySem.F.type_list_count (mt_countF K) (pv 1) (pa_cons pe_bl pa_nil)) pe_int (nomark _)) (pw_or (pt_not (pt_val (pe_callB (isH K) rfl T.b_isinstance (by decide +kernel) (pa_cons (pv 0) (pa_cons (pe_glob (v := .ref (He.ga K "OatError")) rfl R.oat rfl) pa_nil))))) (pw_or1 (pt_not (pt_val (pe_callB (isH K) rfl T.b_isinstance (by decide +kernel) (pa_cons (pv 0) (pa_cons (pe_bltn (v := .ty "ValueError") rfl T.b_ValueError (by decide +kernel) rfl) pa_nil))))))))) (pss_one (ps_ret pe_str)) pss_nil)
      (pss_one (ps_ret (pe_ix (ixL K) (pe_lst (pa_cons pe_str (pa_cons pe_str (pa_cons pe_str (pa_cons pe_str (pa_cons pe_str (pa_cons pe_str (pa_cons pe_str pa_nil)))))))) (pe_bm PySem.F.plainAttrs_list PySem.F.slot_list_index PySem.F.type_list_index (mt_indexK K) (pv 1) (pa_cons pe_bl pa_nil)) (fun _ _ => rfl)))))))), ?_⟩
    have O := R.ok x hx
    have S := R.sep x hx
    refine ⟨_, rfl, a, _, _, _, _, rfl, hH, O.ec, .own _, S "BadLand" (by decide +kernel), ?_⟩
    refine ⟨_, rfl, a, _, _, _, _, rfl, hH, O.ec, .own _, S "BadWorks" (by decide +kernel), ?_⟩
    refine ⟨_, rfl, a, _, _, _, _, rfl, hH, O.ec, .own _, S "BadWants" (by decide +kernel), by show 3 ≤ sizeLine; decide, fun l1 n1 => ?_⟩
    have s1 := same_new (o := .lst [.bl (decide (x = "BadLand")), .bl (decide (x = "BadWorks")), .bl (decide (x = "BadWants"))]) n1
    have g1 : (upd H l1 (.lst [.bl (decide (x = "BadLand")), .bl (decide (x = "BadWorks")), .bl (decide (x = "BadWants"))])) l1 = _ := upd_same
    dsimp only [gName]
    generalize (upd H l1 (.lst [.bl (decide (x = "BadLand")), .bl (decide (x = "BadWorks")), .bl (decide (x = "BadWants"))])) = H1 at s1 g1 ⊢
    have h1 := s1 _ _ hH
    refine ⟨_, rfl, _, rfl, a, _, _, _, _, rfl, h1, O.ec, .own _, S "BadPlan" (by decide +kernel), ?_⟩
    refine ⟨_, rfl, a, _, _, _, _, rfl, h1, O.ec, .own _, S "BadPaper" (by decide +kernel), ?_⟩
    refine ⟨_, rfl, a, _, _, _, _, rfl, h1, O.ec, .own _, S "BadText" (by decide +kernel), by show 3 ≤ sizeLine; decide, fun l2 n2 => ?_⟩
    have s2 := same_new (o := .lst [.bl (decide (x = "BadPlan")), .bl (decide (x = "BadPaper")), .bl (decide (x = "BadText"))]) n2
    refine ⟨l1, l2, _, _, rfl, rfl, s2 _ _ g1, upd_same, by show 6 ≤ sizeLine; decide, fun l3 n3 => ?_⟩
    have s3 := s2.trans (same_new (o := .lst ([.bl (decide (x = "BadLand")), .bl (decide (x = "BadWorks")), .bl (decide (x = "BadWants"))] ++ [.bl (decide (x = "BadPlan")), .bl (decide (x = "BadPaper")), .bl (decide (x = "BadText"))])) n3)
    have g3 : (upd (upd H1 l2 (.lst [.bl (decide (x = "BadPlan")), .bl (decide (x = "BadPaper")), .bl (decide (x = "BadText"))])) l3 (.lst ([.bl (decide (x = "BadLand")), .bl (decide (x = "BadWorks")), .bl (decide (x = "BadWants"))] ++ [.bl (decide (x = "BadPlan")), .bl (decide (x = "BadPaper")), .bl (decide (x = "BadText"))]))) l3 = _ := upd_same
    dsimp only [gName]
    generalize (upd (upd H1 l2 (.lst [.bl (decide (x = "BadPlan")), .bl (decide (x = "BadPaper")), .bl (decide (x = "BadText"))])) l3 (.lst ([.bl (decide (x = "BadLand")), .bl (decide (x = "BadWorks")), .bl (decide (x = "BadWants"))] ++ [.bl (decide (x = "BadPlan")), .bl (decide (x = "BadPaper")), .bl (decide (x = "BadText"))]))) = H3 at s3 g3 ⊢
    have h3 := s3 _ _ h1
    refine ⟨_, rfl, _, rfl, a, _, _, _, _, rfl, h3, O.ec, .own _, S "NoneSuch" (by decide +kernel), by show 1 ≤ sizeLine; decide, fun l4 n4 => ?_⟩
    have s4 := same_new (o := .lst [.bl (decide (x = "NoneSuch"))]) n4
    refine ⟨l3, l4, _, _, rfl, rfl, s4 _ _ g3, upd_same, by show 7 ≤ sizeLine; decide, fun l5 n5 => ?_⟩
    have s5 := s4.trans (same_new (o := .lst (([.bl (decide (x = "BadLand")), .bl (decide (x = "BadWorks")), .bl (decide (x = "BadWants"))] ++ [.bl (decide (x = "BadPlan")), .bl (decide (x = "BadPaper")), .bl (decide (x = "BadText"))]) ++ [.bl (decide (x = "NoneSuch"))])) n5)
    have g5 : (upd (upd H3 l4 (.lst [.bl (decide (x = "NoneSuch"))])) l5 (.lst (([.bl (decide (x = "BadLand")), .bl (decide (x = "BadWorks")), .bl (decide (x = "BadWants"))] ++ [.bl (decide (x = "BadPlan")), .bl (decide (x = "BadPaper")), .bl (decide (x = "BadText"))]) ++ [.bl (decide (x = "NoneSuch"))]))) l5 = _ := upd_same
    dsimp only [gName]
    generalize (upd (upd H3 l4 (.lst [.bl (decide (x = "NoneSuch"))])) l5 (.lst (([.bl (decide (x = "BadLand")), .bl (decide (x = "BadWorks")), .bl (decide (x = "BadWants"))] ++ [.bl (decide (x = "BadPlan")), .bl (decide (x = "BadPaper")), .bl (decide (x = "BadText"))]) ++ [.bl (decide (x = "NoneSuch"))]))) = H5 at s5 g5 ⊢
    have h5 := s5 _ _ h3
    have key : ∃ j : Nat, (([.bl (decide (x = "BadLand")), .bl (decide (x = "BadWorks")), .bl (decide (x = "BadWants"))] ++ [.bl (decide (x = "BadPlan")), .bl (decide (x = "BadPaper")), .bl (decide (x = "BadText"))]) ++ [.bl (decide (x = "NoneSuch"))] : List V).countP (fun z => eqV z (.bl true)) = 1 ∧
        (([.bl (decide (x = "BadLand")), .bl (decide (x = "BadWorks")), .bl (decide (x = "BadWants"))] ++ [.bl (decide (x = "BadPlan")), .bl (decide (x = "BadPaper")), .bl (decide (x = "BadText"))]) ++ [.bl (decide (x = "NoneSuch"))] : List V)[j]? = some (.bl true) ∧
        ((([.bl (decide (x = "BadLand")), .bl (decide (x = "BadWorks")), .bl (decide (x = "BadWants"))] ++ [.bl (decide (x = "BadPlan")), .bl (decide (x = "BadPaper")), .bl (decide (x = "BadText"))]) ++ [.bl (decide (x = "NoneSuch"))] : List V).take j).all (fun z => !eqV z (.bl true)) = true ∧
        ([.str "land", .str "works", .str "wants", .str "plan", .str "paper", .str "text", .str "none"] : List V)[j]? = some (.str (errW x)) := by
      unfold errN at hx
      simp only [List.mem_cons, List.mem_nil_iff, or_false] at hx
      rcases hx with rfl | rfl | rfl | rfl | rfl | rfl | rfl
      · exact ⟨0, by kernel_rfl, by kernel_rfl, by kernel_rfl, by kernel_rfl⟩
      · exact ⟨1, by kernel_rfl, by kernel_rfl, by kernel_rfl, by kernel_rfl⟩
      · exact ⟨2, by kernel_rfl, by kernel_rfl, by kernel_rfl, by kernel_rfl⟩
      · exact ⟨3, by kernel_rfl, by kernel_rfl, by kernel_rfl, by kernel_rfl⟩
      · exact ⟨4, by kernel_rfl, by kernel_rfl, by kernel_rfl, by kernel_rfl⟩
      · exact ⟨5, by kernel_rfl, by kernel_rfl, by kernel_rfl, by kernel_rfl⟩
      · exact ⟨6, by kernel_rfl, by kernel_rfl, by kernel_rfl, by kernel_rfl⟩
    obtain ⟨j, k1, k2, k3, k4⟩ := key
    refine ⟨_, rfl, .inl ⟨rfl, _, sql g5⟩, l5, _, .bl true, rfl, rfl, sql g5, rfl, rfl, ?_⟩
    rw [k1]
    refine ⟨rfl, false, rfl, iteF ?_⟩
    refine ⟨_, rfl, a, _, _, _, _, rfl, h5, O.ec, .own _, O.ko, true, rfl, iteF ?_⟩
    refine ⟨_, rfl, a, _, _, _, _, rfl, h5, O.ec, .ty _, O.kv, true, rfl, iteF ?_⟩
    refine ⟨by show 7 ≤ sizeLine; decide, fun l6 n6 => ?_⟩
    have s6 := same_new (o := .lst [.str "land", .str "works", .str "wants", .str "plan", .str "paper", .str "text", .str "none"]) n6
    refine ⟨_, rfl, .inl ⟨rfl, _, sql (s6 _ _ g5)⟩, l5, _, .bl true, j, .bl true, rfl, rfl, sql (s6 _ _ g5), rfl, rfl, k2, rfl, fun m z' hm hz => ?_, ?_⟩
    · have := List.all_eq_true.mp k3 z' (List.mem_iff_getElem?.mpr ⟨m, by rw [List.getElem?_take, if_pos hm]; exact hz⟩)
      simpa using this
    · refine ⟨l6, _, _, _, rfl, rfl, sql upd_same, atI_nat k4, ?_⟩
      exact q _ (s1.trans (s3.trans (s5.trans s6)))
end
end Oa
namespace Oa
open PySem PySem.Spec PyProof.Rows L2 Oat
/-! ### min of a list of pairs (a whole number, a count) -/
def pD (e : Int × Nat) : PyData := .tuple [.int e.1, .int (e.2 : Int)]
theorem lt_pD (a b : Int × Nat) : PySem.W.dataLt (pD a) (pD b) = plt a b := by
  unfold pD
  rw [PySem.W.dataLt_pair (by simp [PySem.W.alike]) (by simp [PySem.W.alike]), PySem.W.dataLt_int, PySem.W.dataLt_int]
  unfold plt
  have e1 : PyData.eqv (.int a.1) (.int b.1) = decide (a.1 = b.1) := by
    simp only [PyData.eqv]
    rw [Bool.eq_iff_iff, beq_iff_eq, decide_eq_true_eq]
  have e2 : PyData.eqv (.int (a.2 : Int)) (.int (b.2 : Int)) = decide (a.2 = b.2) := by
    simp only [PyData.eqv]
    rw [Bool.eq_iff_iff, beq_iff_eq, decide_eq_true_eq]
    omega
  rw [e1, e2]
  by_cases h : a.1 = b.1
  · rw [if_pos (decide_eq_true h), if_pos h]
    by_cases h2 : a.2 = b.2
    · rw [if_pos (decide_eq_true h2), h2]
      simp
    · rw [if_neg (by simpa using h2)]
      exact decide_eq_decide.mpr (by omega)
  · rw [if_neg (by simpa using h), if_neg h]
theorem alikeAll_pD (es : List (Int × Nat)) : PySem.W.AlikeAll (es.map pD) := by
  refine ⟨fun x hx y hy => ?_, fun x hx => ?_⟩
  · obtain ⟨a, _, rfl⟩ := List.mem_map.mp hx
    obtain ⟨b, _, rfl⟩ := List.mem_map.mp hy
    unfold pD
    simp [PySem.W.alike, PySem.W.alikeAll]
  · obtain ⟨a, _, rfl⟩ := List.mem_map.mp hx
    exact fun z => nomatch z
theorem depth_pD : ∀ es : List (Int × Nat), PyData.depthAll (es.map pD) ≤ 4
  | [] => by simp [PyData.depthAll]
  | e :: es => by
    have := depth_pD es
    simp only [List.map_cons, PyData.depthAll, pD, PyData.depth]
    omega
theorem minD_pD (e : Int × Nat) (es : List (Int × Nat)) : PySem.W.minD (pD e) (es.map pD) = pD (es.foldl pmin e) := by
  unfold PySem.W.minD
  induction es generalizing e with
  | nil => rfl
  | cons x es ih =>
    rw [List.map_cons, List.foldl_cons, List.foldl_cons, lt_pD]
    have : (if plt x e = true then pD x else pD e) = pD (pmin e x) := by
      unfold pmin
      split <;> rfl
    rw [this]
    exact ih _
theorem dpAll_pD {K : PySem.W.Frag} {H : Hp} : ∀ {xs : List V} {es : List (Int × Nat)}, Paired (fun v e => Dp K H v (pD e)) xs es → DpAll K H xs (es.map pD)
  | _, _, .nil => .nil
  | _, _, .cons a b => .cons a (dpAll_pD b)
section
variable {X : Cx}
def rMinLP (K : PySem.W.Frag) : List V → Hp → VK → Prop := fun vs H Q => ∃ p xs e es, vs = [.ref p] ∧ SqL K H p xs ∧ Paired (fun v e => Dp K H v (pD e)) xs (e :: es) ∧ ∀ v, Dp K H v (pD (es.foldl pmin e)) → Q v H
theorem minLP (K : PySem.W.Frag) (hc : X.calm = true) (hu : X.A.units + 64 < cLine) (h : X.K = K := by rfl) : CallR X (.builtin "min") (rMinLP K) := by
  subst h
  intro pins s σ H vs us Q I r h
  obtain ⟨p, xs, e, es, rfl, hs, hp, q⟩ := h
  obtain ⟨its, rv, hl, _⟩ := I.list hs
  rw [Vals.ref1 r]
  obtain ⟨as, hr⟩ := Dp.readsAll I _ _ _ (dpAll_pD hp) rv
  have d := depth_pD (e :: es)
  refine PySem.W.oa_min_list (vs := its.toArray) (x := pD e) (xs := es.map pD) (I.ok.hd hc) hl.isList (by simpa using hr) (alikeAll_pD (e :: es)) (by have : PyData.depthAll (pD e :: es.map pD) ≤ 4 := d; omega) fun i v h' tk hi hv hm k => ?_
  have hv' : its[i]? = some v := by simpa using hv
  have hi' : i < xs.length := by
    rw [Paired.length hp]
    simpa using hi
  obtain ⟨u, hu', ru⟩ := Vals.get rv (List.getElem?_eq_getElem hi')
  have : u = v := Option.some.inj (hu'.symm.trans hv')
  subst this
  have hd : Dp X.K H xs[i] (pD ((e :: es).getD i (0, 0))) := by
    have : ∀ {xs : List V} {es : List (Int × Nat)}, Paired (fun v e => Dp X.K H v (pD e)) xs es → ∀ (i : Nat) (h : i < xs.length), Dp X.K H xs[i] (pD (es.getD i (0, 0))) := by
      intro xs es hp
      induction hp with
      | nil => intro i h; exact absurd h (Nat.not_lt_zero _)
      | cons a b ih =>
        intro i h
        cases i with
        | zero => exact a
        | succ i => exact ih i (by simpa using h)
    exact this hp i hi'
  have eg : (pD e :: es.map pD).getD i .none = pD ((e :: es).getD i (0, 0)) := by
    have hl' : i < (e :: es).length := by simpa using hi
    rw [← List.map_cons, List.getD_eq_getElem?_getD, List.getElem?_map, List.getD_eq_getElem?_getD, List.getElem?_eq_getElem hl']
    rfl
  rw [eg, minD_pD] at hm
  rw [hm] at hd
  exact ⟨_, H, I.kept k, ru, q _ hd⟩
end
/-! ### data beside itself -/
mutual
def noDict : PyData → Bool
  | .none | .bool _ | .int _ | .str _ => true
  | .list xs | .tuple xs => noDictAll xs
  | .dict _ => false
def noDictAll : List PyData → Bool
  | [] => true
  | x :: xs => noDict x && noDictAll xs
end
mutual
theorem eqv_refl : ∀ d : PyData, noDict d = true → PyData.eqv d d = true
  | .none, _ => rfl
  | .bool b, _ => by simp [PyData.eqv]
  | .int i, _ => by simp [PyData.eqv]
  | .str x, _ => by simp [PyData.eqv]
  | .list xs, h => by
    simp only [PyData.eqv]
    exact eqvAll_refl xs (by simpa only [noDict] using h)
  | .tuple xs, h => by
    simp only [PyData.eqv]
    exact eqvAll_refl xs (by simpa only [noDict] using h)
  | .dict _, h => by simp [noDict] at h
theorem eqvAll_refl : ∀ ds : List PyData, noDictAll ds = true → PyData.eqvAll ds ds = true
  | [], _ => rfl
  | d :: ds, h => by
    simp only [noDictAll, Bool.and_eq_true] at h
    simp only [PyData.eqvAll, eqv_refl d h.1, eqvAll_refl ds h.2, Bool.and_self]
end
end Oa
namespace Oat
open Oa
theorem stepBest_nil (left : Nat) (F : Fnd) : stepBest left F [] = [] := by
  unfold stepBest
  have : ∀ (F : Fnd) (acc : Fnd), F.foldl (fun acc e => ([] : List (Nat × Int)).foldl (addRow left e.1 e.2) acc) acc = acc := by
    intro F
    induction F with
    | nil => intro acc; rfl
    | cons e F ih => intro acc; exact ih acc
  exact this F []
theorem bestF_empty {ts : List (List (Nat × Int))} {left : Nat} (h : [] ∈ ts) : bestF ts left = [] := by
  obtain ⟨a, b, rfl⟩ := List.append_of_mem h
  unfold bestF
  rw [List.foldl_append, List.foldl_cons, stepBest_nil]
  clear h
  induction b with
  | nil => rfl
  | cons t b ih => exact ih
theorem tab_empty_up {c : Case} (wf : WfL c.L) {p k : Nat} (hp : p ≤ c.L.length) (hk : k ∈ kids c.L p) (h : tab c k = []) : tab c p = [] := by
  rw [tab_eq wf hp, tabOf_up]
  refine List.eq_nil_iff_forall_not_mem.mpr fun x hx => ?_
  have := (rowsUp_mem hx).2
  obtain ⟨b, hb⟩ := rowOf_best this
  have hn : best ((kids c.L p).map fun k => takes (tab c k)) x.1 = none := best_none.mpr (bestF_empty (List.mem_map.mpr ⟨k, hk, by rw [h]; rfl⟩))
  rw [hn] at hb
  cases hb
theorem tab_empty_zero {c : Case} (wf : WfL c.L) : ∀ (n k : Nat), k ≤ n → k ≤ c.L.length → tab c k = [] → tab c 0 = []
  | n, 0, _, _, h => h
  | 0, k + 1, hn, _, _ => by omega
  | n + 1, k + 1, hn, hk, h => by
    have hm : k + 1 ∈ kids c.L (c.L.getD k 0) := mem_kids.mpr ⟨k, by omega, rfl, rfl⟩
    have hw := wf k (by omega)
    exact tab_empty_zero wf n (c.L.getD k 0) (by omega) (by omega) (tab_empty_up wf (by omega) hm h)
theorem mem_blocked {c : Case} {k : Nat} : k ∈ blockedL c ↔ k ≤ c.L.length ∧ tab c k = [] ∧ ∀ q ∈ kids c.L k, tab c q ≠ [] := by
  unfold blockedL
  rw [List.mem_filter, List.mem_range, Bool.and_eq_true_iff, List.isEmpty_iff, List.all_eq_true]
  constructor
  · rintro ⟨h1, h2, h3⟩
    exact ⟨by omega, h2, fun q hq e => by have := h3 q hq; rw [e] at this; cases this⟩
  · rintro ⟨h1, h2, h3⟩
    refine ⟨by omega, h2, fun q hq => ?_⟩
    have := h3 q hq
    cases e : tab c q with
    | nil => exact absurd e this
    | cons _ _ => rfl
theorem blocked_exists {c : Case} (wf : WfL c.L) : ∀ (n p : Nat), c.L.length < n + p → p ≤ c.L.length → tab c p = [] → ∃ k, k ∈ blockedL c
  | 0, p, h1, h2, _ => by omega
  | n + 1, p, h1, h2, h => by
    by_cases hk : ∀ q ∈ kids c.L p, tab c q ≠ []
    · exact ⟨p, mem_blocked.mpr ⟨h2, h, hk⟩⟩
    · have : ∃ q, q ∈ kids c.L p ∧ tab c q = [] := by
        refine Classical.byContradiction fun hn => hk fun q hq e => hn ⟨q, hq, e⟩
      obtain ⟨q, hq, hq2⟩ := this
      have := kids_gt wf hq
      exact blocked_exists wf n q (by omega) (by omega) hq2
theorem least_none {c : Case} : least c = none ↔ tab c 0 = [] := by
  unfold least
  rw [Option.map_eq_none_iff, bestL_none]
  unfold takes
  rw [List.map_eq_nil_iff]
theorem told_none {c : Case} : told c = none ↔ least c = none := by
  unfold least told
  rw [Option.map_eq_none_iff, Option.map_eq_none_iff]
theorem least_blocked {c : Case} (wf : WfL c.L) : decide (least c = none) = !(blockedL c).isEmpty := by
  rw [Bool.eq_iff_iff, decide_eq_true_eq, least_none]
  constructor
  · intro h
    obtain ⟨k, hk⟩ := blocked_exists wf (c.L.length + 1) 0 (by omega) (Nat.zero_le _) h
    cases e : blockedL c with
    | nil => rw [e] at hk; cases hk
    | cons _ _ => rfl
  · intro h
    cases e : blockedL c with
    | nil => rw [e] at h; cases h
    | cons k l =>
      have hk := mem_blocked.mp (show k ∈ blockedL c by rw [e]; exact List.mem_cons_self)
      exact tab_empty_zero wf k k (Nat.le_refl _) hk.1 hk.2.1
/-- behind the base: what goes back -/
theorem tab_back {c : Case} (wf : WfL c.L) {p e : Nat} {r : TRow} (hp : p ≤ c.L.length) (h0 : p ≠ 0) (h : dget (tab c p) e = some r) : r.back = r.out - e := by
  obtain ⟨_, hr⟩ := tab_row wf hp h
  unfold Oat.rowOf at hr
  cases hn : needOf c.W p ((kids c.L p).map fun k => takes (tab c k)) e with
  | none => rw [hn] at hr; cases hr
  | some n =>
    rw [hn] at hr
    have hr : takenOf c p n e = some r := hr
    unfold takenOf at hr
    rw [if_neg h0] at hr
    split at hr
    · rename_i z
      have := Option.some.inj hr
      subst this
      show (0 : Int) = 0 - (e : Int)
      rw [z.1]
      rfl
    · obtain ⟨o, _, rfl⟩ := Option.map_eq_some_iff.mp hr
      rfl
end Oat
namespace Oa
open PySem PySem.Spec PyProof.Rows L2 Oat
theorem noDict_nats : ∀ cs : List Nat, noDictAll (cs.map fun (n : Nat) => .int (n : Int)) = true
  | [] => by simp [noDictAll]
  | c :: cs => by simp only [List.map_cons, noDictAll, noDict, noDict_nats cs, Bool.and_self]
theorem noDict_pairs : ∀ xs : List (Int × Int), noDictAll (xs.map pairD) = true
  | [] => by simp [noDictAll]
  | c :: cs => by simp only [List.map_cons, noDictAll, pairD, noDict, noDict_pairs cs, Bool.and_self]
theorem canLay_nats : ∀ cs : List Nat, PyData.canLayAll0 (cs.map fun (n : Nat) => .int (n : Int)) = true
  | [] => by simp [PyData.canLayAll0]
  | c :: cs => by simp only [List.map_cons, PyData.canLayAll0, PyData.canLay0, canLay_nats cs, Bool.and_self]
theorem canLay_pairs : ∀ xs : List (Int × Int), PyData.canLayAll0 (xs.map pairD) = true
  | [] => by simp [PyData.canLayAll0]
  | c :: cs => by simp only [List.map_cons, PyData.canLayAll0, pairD, PyData.canLay0, canLay_pairs cs, Bool.and_self]
theorem depth_pairs : ∀ xs : List (Int × Int), PyData.depthAll (xs.map pairD) ≤ 3
  | [] => by simp [PyData.depthAll]
  | c :: cs => by
    have := depth_pairs cs
    simp only [List.map_cons, PyData.depthAll, pairD, PyData.depth]
    omega
theorem shaped_nats (cs : List Nat) : SeqAt.shaped (natsD cs) = true := by
  have h1 := canLay_nats cs
  have h2 := depth_ints cs
  unfold SeqAt.shaped natsD
  refine Bool.and_eq_true_iff.mpr ⟨by simp only [PyData.canLay0, h1], decide_eq_true ?_⟩
  simp only [PyData.depth]
  omega
theorem eqv_nats (xs ys : List Nat) : PyData.eqv (natsD xs) (natsD ys) = decide (xs = ys) := by
  unfold natsD
  simp only [PyData.eqv]
  exact eqvAll_ints xs ys
theorem shaped_told (cs : List Nat) (ts : List (Int × Int)) : SeqAt.shaped (.list [natsD cs, pairsD ts]) = true := by
  have h1 := canLay_nats cs
  have h2 := depth_ints cs
  have h3 := canLay_pairs ts
  have h4 := depth_pairs ts
  unfold SeqAt.shaped natsD pairsD
  refine Bool.and_eq_true_iff.mpr ⟨by simp only [PyData.canLay0, PyData.canLayAll0, h1, h3, Bool.and_self], decide_eq_true ?_⟩
  simp only [PyData.depth, PyData.depthAll]
  omega
theorem eqv_told (cs : List Nat) (ts : List (Int × Int)) : PyData.eqv (.list [natsD cs, pairsD ts]) (.list [natsD cs, pairsD ts]) = true := by
  refine eqv_refl _ ?_
  have h1 := noDict_nats cs
  have h3 := noDict_pairs ts
  simp only [noDict, noDictAll, natsD, pairsD, h1, h3, Bool.and_self]
section
variable {P : Program} {w : World} {K : PySem.W.Frag} {mg : Str → Option Value} {base : Heap}
theorem if_no {t : TT} {tu tr : TS} {D : Ends} {σ : L2.St} {H : Hp} (P : Hp → Prop) (h : ∀ Q : Bool → Hp → Prop, (∀ H', P H' → Q false H') → t σ H Q) (h2 : ∀ H', P H' → tr D σ H') : tSeq (tIfS t tu tNext) tr D σ H :=
  h _ fun H' p => iteF (h2 H' p)
theorem decI (k : Nat) : decide (V.int ((k : Nat) : Int) = V.int 0) = decide (k = 0) := decide_eq_decide.mpr ⟨fun h => by injection h with h; omega, fun h => by rw [h]; rfl⟩
theorem asg_any {te : TE} {g : TG} {tr : TS} {D : Ends} {σ : L2.St} {H : Hp} (P : V → Hp → Prop) (h : ∀ Q : VK, (∀ v H', P v H' → Q v H') → te σ H Q) (h2 : ∀ v H', P v H' → g v σ H' (tr D)) : tSeq (tAsg te g) tr D σ H := h _ fun v H' p => h2 v H' p
theorem any_all {α : Type} (l : List α) (f : α → Bool) : (!l.any f) = l.all fun x => !f x := by
  rw [List.not_any_eq_all_not]
def sp_law (K : PySem.W.Frag) : Sp := fun vs H Q _ => ∃ (a : Addr) (ns : List Int), vs = [.ref a] ∧ SqL K H a (ns.map V.int) ∧ ∀ H', Q (.bl true) H'
theorem dpAll_snoc {H : Hp} : ∀ {vs : List V} {ds : List PyData} {v : V} {d : PyData}, DpAll K H vs ds → Dp K H v d → DpAll K H (vs ++ [v]) (ds ++ [d])
  | _, _, _, _, .nil, h => .cons h .nil
  | _, _, _, _, .cons a b, h => .cons a (dpAll_snoc b h)
theorem scal_oi (o : Option Int) : scal (oiV o) (oiV o) = true := by cases o <;> rfl
theorem okF {x : Str} {st : Stmt} {N ps : List Str} {k : Nat} {sp : Sp} {f : Addr} {fd : FuncData} (F : FunD K x x (defArgs st) (defBody st) (defScope st) [] [] f fd) (S : FnScope N ps (defScope st)) (len : ∀ vs H Q E, sp vs H Q E → vs.length = ps.length)
    (hbody : ∀ (cdv : Value) (A : Around) (outer : List Env) (s : Shared) (H : Hp) (vs : List V) (Q : VK) (E : XK), Room k (A.deeper (envOfC x (defScope st) s.heap.objs.size f cdv)) → sp vs H Q E →
      ∃ t, PSs (cxOf CX0 P w K mg base N x (defScope st) f cdv A outer s H E).nox (defBody st) t ∧ t { nx := fun _ H' => Q .non H', rt := Q } (start N vs) H) : FnOk P w K mg base CX0 (k + 1) f fd ps sp := by
  refine F.ok S len fun cdv A outer s H vs Q E hr h => ?_
  obtain ⟨t, h1, h2⟩ := hbody cdv A outer s H vs Q E hr h
  exact ⟨t, h1.nox, h2⟩
end
end Oa
namespace Oa
open PySem PySem.Spec PyProof.Rows L2 Oat
section
variable {K : PySem.W.Frag} {H : Hp} {a b : Addr} {xs ys : List V} {Q : VK}
/-! ### parts of tuples, tuples put together: what comes out -/
theorem slA_any {lo hi : Option Int} (h : SqT K H a xs) (q : ∀ p H', Same H H' → SqT K H' p (cutV xs lo hi) → Q (.ref p) H') : rSlA K (.ref a) lo hi H Q := by
  refine ⟨a, xs, rfl, h, fun c => ?_, fun _ p np => q p _ (same_new np) (sqt upd_same)⟩
  refine q a H (Same.refl _) ?_
  have e : cutV xs lo hi = xs := by
    unfold cutV
    rw [c.1, c.2, List.drop_zero, Nat.sub_zero, List.take_length]
  rw [e]
  exact h
theorem catA_any (h1 : SqT K H a xs) (h2 : SqT K H b ys) (hl : xs.length + ys.length ≤ sizeLine) (q : ∀ p H', Same H H' → SqT K H' p (xs ++ ys) → Q (.ref p) H') : rCatA K (.ref a) (.ref b) H Q := by
  refine ⟨a, b, xs, ys, rfl, rfl, h1, h2, hl, fun e => q b H (Same.refl _) (by rw [e]; exact h2), fun _ e => q a H (Same.refl _) (by rw [e, List.append_nil]; exact h1), fun _ _ p np => q p _ (same_new np) (sqt upd_same)⟩
theorem cutV_pre (p : Nat) (h : p ≤ xs.length) : cutV xs none (some ((p : Nat) : Int)) = xs.take p := by
  unfold cutV
  rw [HT.sIx_none, HT.sIx_nat, List.drop_zero, Nat.sub_zero, Nat.min_eq_left h]
theorem cutV_post (p : Nat) (h : p ≤ xs.length) : cutV xs (some ((p : Nat) : Int)) none = xs.drop p := by
  unfold cutV
  rw [HT.sIx_none, HT.sIx_nat, Nat.min_eq_left h, List.take_of_length_le (by rw [List.length_drop]; exact Nat.le_refl _)]
theorem take_set_drop {α : Type} {l : List α} {p : Nat} {x : α} (h : p < l.length) : l.take p ++ [x] ++ l.drop (p + 1) = l.set p x := by
  rw [List.set_eq_take_append_cons_drop, if_pos h, List.append_assoc]
  rfl
end
theorem pgTupK {X : Cx} (K : PySem.W.Frag) {es : List Expr} {k n : Nat} {t : TGs} {pos : Pos} (hc : X.calm = true) (h : PGs X es t)
    (hn : (assignEach es X.env).length = n := by rfl) (hst : (assignEach es X.env).findIdx? (·.1) = none := by rfl) (hK : X.K = K := by rfl) : PG X (.Tuple es k pos) (gTup K n t) := by
  subst hK
  exact pg_tup hc h hn hst
/-! ### calls by several keywords -/
section
variable (P : Program) (w : World) (K : PySem.W.Frag) (mg : Str → Option Value) (base : Heap)
def CalKs (CX : CXT) (k : Nat) (x : Str) (ps : List Str) (n : Nat) (ks : List Str) (sp : Sp) : Prop :=
  ∃ f fd, mg x = some (.ref f) ∧ PySem.W.keepIn K (.ref f) = true ∧ KBn K fd ps n ks (fun us ws => us ++ ws) (fun vs zs => vs ++ zs) ∧ FnOk P w K mg base CX k f fd ps sp
end
section
variable {P : Program} {w : World} {K : PySem.W.Frag} {mg : Str → Option Value} {base : Heap}
theorem calKs {CX : CXT} {x : Str} {kd : Str × V} {kds : List (Str × V)} {ks : List Str} {st : Stmt} {N ps : List Str} {k n : Nat} {sp : Sp} (D : Dfn K mg x st (kd :: kds)) (S : FnScope N ps (defScope st))
    (bk : ∀ (D : Addr) (doc pm : Value) (an : Option Addr) (cdv ct : Value) (us ws : List Value), us.length = n → ws.length = ks.length → bindArgs (PySem.W.fnOf x x (defArgs st) (defBody st) (defScope st) .none (.ref D) doc pm an cdv ct) ⟨us, ks.zip ws⟩ = pure (ps.zip (us ++ ws)))
    (len : ∀ vs H Q E, sp vs H Q E → vs.length = ps.length)
    (hbody : ∀ (f : Addr) (cdv : Value) (A : Around) (outer : List Env) (s : Shared) (H : Hp) (vs : List V) (Q : VK) (E : XK), Room k (A.deeper (envOfC x (defScope st) s.heap.objs.size f cdv)) → sp vs H Q E →
      ∃ t, PSs (cxOf CX P w K mg base N x (defScope st) f cdv A outer s H E) (defBody st) t ∧ t { nx := fun _ H' => Q .non H', rt := Q } (start N vs) H) : CalKs P w K mg base CX (k + 1) x ps n ks sp := by
  obtain ⟨f, fd, g, F⟩ := D
  refine ⟨f, fd, g, F.kp, ?_, F.ok S len fun cdv A outer s H vs Q E hr h => hbody f cdv A outer s H vs Q E hr h⟩
  obtain ⟨oc, od, dV, kV, doc, pm, an, cdv, ct, osl, rfl, lk, hcd, hD, hK⟩ := F.ex
  rcases hD with ⟨_, rfl⟩ | ⟨e, _⟩
  · rcases hK with e | ⟨D, rfl, hq⟩
    · cases e
    · exact ⟨fun s us ws _ l1 l2 => .of_eq (bk D doc pm an cdv ct us ws l1 l2), fun r1 r2 => r1.append r2⟩
  · exact absurd rfl e
end
section
variable {X : Cx} {CX : CXT} {k n : Nat} {x k1 k2 : Str} {ps : List Str} {sp : Sp} {e e1 e2 : Expr} {es : List Expr} {t : TA} {te1 te2 : TE} {p pos p1 p2 : Pos} {E : XK}
/-- f(e, .., k1 = v, k2 = u) -/
theorem pcallK2 (c : CalKs X.prog X.w X.K X.mg X.base CX k x ps n [k1, k2] sp) (hr : Room k X.A) (hx : Passes CX X E) (ha : PA X (e :: es) t) (h1 : PE X e1 te1) (h2 : PE X e2 te2) (hg : Gl X x := by rfl)
    (hall : (backToKw pos (keywordEach [⟨some k1, e1, p1⟩, ⟨some k2, e2, p2⟩] X.env)).all (·.1.isSome) = true := by rfl) (hks : (backToKw pos (keywordEach [⟨some k1, e1, p1⟩, ⟨some k2, e2, p2⟩] X.env)).filterMap (·.1) = [k1, k2] := by rfl)
    (hdb : (x == ("__debug__" : Str)) = false := by decide) (he : starEach (e :: es) X.env = (false, eval e X.env) :: starEach es X.env := by rfl)
    (hpl : ((backTo pos (starEach (e :: es) X.env)).any (·.1) || (backToKw pos (keywordEach [⟨some k1, e1, p1⟩, ⟨some k2, e2, p2⟩] X.env)).any (·.1.isNone)) = false := by rfl) :
    PE X (.Call (.Name x p) (e :: es) [⟨some k1, e1, p1⟩, ⟨some k2, e2, p2⟩] pos) (tCallN n 2 sp (fun vs zs => vs ++ zs) E t (tCons te1 (tCons te2 tNil))) := by
  obtain ⟨f, fd, g, kp, b, F⟩ := c
  exact pe_callN F hr hg g kp b hx ha (pk_cons h1 (pk_cons h2 pk_nil)) hall hks hdb he hpl
end
end Oa
namespace Oa
open PySem PySem.Spec PyProof.Rows L2 Oat
section
variable {K : PySem.W.Frag}
theorem tyL {H : Hp} {a : Addr} {xs : List V} (h : SqL K H a xs) : TyX K H (.ref a) (.type "list") := by
  rcases h with (h | ⟨o, h⟩) | ⟨o, its, n, h1, h2, _⟩
  · exact .base (.lst h)
  · exact .base (.frz h)
  · exact .kList h1 h2
end
end Oa
namespace Oa
open PySem PySem.Spec PyProof.Rows L2 Oat
/-! ### things of any kind -/
def isNonV : V → Bool
  | .non => true
  | _ => false
theorem isNonV_eq (v : V) : isNonV v = decide (v = .non) := by
  cases v <;> first | rfl | exact (decide_eq_false (fun z => nomatch z)).symm
/-- of a tuple, by its items; none: no tuple -/
def landB (o : Option (List V)) : Bool := match o with
  | none => false
  | some xs => decide (1 ≤ xs.length ∧ xs.length ≤ 30) && (isNonV (xs.getD 0 (.int 0)) && (List.range (xs.length - 1)).all fun i => isWholeV (xs.getD (i + 1) .non) 0 (i : Int))
def worksB (o : Option (List V)) : Bool := match o with
  | none => false
  | some xs => decide (xs.length = 2) && (isWholeV (xs.getD 0 .non) 1 6 && isWholeV (xs.getD 1 .non) 2 20)
def wantsB (n : Nat) (o : Option (List V)) : Bool := match o with
  | none => false
  | some xs => decide (xs.length = n) && xs.all fun x => isNonV x || isWholeV x 0 999
theorem landB_some (xs : List V) : landB (some xs) = (decide (1 ≤ xs.length ∧ xs.length ≤ 30) && (isNonV (xs.getD 0 (.int 0)) && (List.range (xs.length - 1)).all fun i => isWholeV (xs.getD (i + 1) .non) 0 (i : Int))) := rfl
theorem worksB_some (xs : List V) : worksB (some xs) = (decide (xs.length = 2) && (isWholeV (xs.getD 0 .non) 1 6 && isWholeV (xs.getD 1 .non) 2 20)) := rfl
theorem wantsB_some (n : Nat) (xs : List V) : wantsB n (some xs) = (decide (xs.length = n) && xs.all fun x => isNonV x || isWholeV x 0 999) := rfl
def ThT (K : PySem.W.Frag) (H : Hp) (v : V) (o : Option (List V)) : Prop := match o with
  | none => ∃ t, TyX K H v (.type t) ∧ kitB t "tuple" = some false
  | some xs => ∃ a, v = .ref a ∧ SqT K H a xs ∧ xs.length ≤ 100 ∧ ∀ x ∈ xs, Thing K H x
/-- things that stay things -/
def Flat (v : V) : Prop := v = .non ∨ (∃ i, v = .int i) ∨ (∃ b, v = .bl b) ∨ ∃ s, v = .str s
theorem Flat.thing {K : PySem.W.Frag} {H : Hp} {v : V} (h : Flat v) : Thing K H v := by
  rcases h with rfl | ⟨i, rfl⟩ | ⟨b, rfl⟩ | ⟨s, rfl⟩
  · exact .inr (.inr ⟨(fun i e => nomatch e), "NoneType", TyX.base TyOf.non, by decide +kernel⟩)
  · exact .inl ⟨i, rfl⟩
  · exact .inr (.inl ⟨b, rfl⟩)
  · exact .inr (.inr ⟨(fun i e => nomatch e), "str", TyX.base (TyOf.str _), by decide +kernel⟩)
section
variable {P : Program} {w : World} {K : PySem.W.Frag} {mg : Str → Option Value} {base : Heap}
theorem thing_tup {H H' : Hp} {xs : List V} (hf : ∀ x ∈ xs, Flat x) : ∀ x ∈ xs, Thing K H' x := fun x hx => (hf x hx).thing
theorem tht_non {H : Hp} : ThT K H .non none := ⟨"NoneType", TyX.base TyOf.non, by decide +kernel⟩
theorem tht_int {H : Hp} {i : Int} : ThT K H (.int i) none := ⟨"int", TyX.base (TyOf.int _), by decide +kernel⟩
theorem tht_lst {H : Hp} {a : Addr} {xs : List V} (h : SqL K H a xs) : ThT K H (.ref a) none := ⟨"list", tyL h, by decide +kernel⟩
theorem tht_tup {H : Hp} {a : Addr} {xs : List V} (h : SqT K H a xs) (hl : xs.length ≤ 100) (hf : ∀ x ∈ xs, Flat x) : ThT K H (.ref a) (some xs) := ⟨a, rfl, h, hl, fun x hx => (hf x hx).thing⟩
/-! ### is_land, is_works, is_wants of anything -/
def sp_is_landG (K : PySem.W.Frag) : Sp := fun vs H Q _ => ∃ v o, vs = [v] ∧ (∀ H', Same H H' → ThT K H' v o) ∧ ∀ H', Same H H' → Q (.bl (landB o)) H'
theorem all_bools : ∀ {xs : List Nat} {ys : List V} {g : Nat → Bool}, Paired (fun (i : Nat) v => v = V.bl (g i)) xs ys → ys = (xs.map g).map V.bl
  | _, _, _, .nil => rfl
  | _, _, _, .cons a b => by rw [a, all_bools b]; rfl
theorem c_is_landG (T : Txt K mg) : Cal P w K mg base CX0 2 "is_land" ["thing"] (sp_is_landG K) := by
  refine cal0 T.d_is_land sc_is_land (fun _ _ _ _ _ _ us hl => match us, hl with | [_], _ => rfl) (fun vs H Q E h => ?_) (fun f cdv A outer s H vs Q E hr h => ?_)
  · obtain ⟨v, o, rfl, _⟩ := h
    rfl
  · obtain ⟨v, o, rfl, ht, q⟩ := h
    refine ⟨_, (pss_cons (ps_if (PW.pt (pw_or (pt_not (pt_val (pe_callB (isi K) rfl T.b_isinstance (by decide +kernel) (pa_cons (pv 0) (pa_cons (pe_bltn (v := .ty "tuple") rfl T.b_tuple (by decide +kernel) rfl) pa_nil))))) (pw_or (pt_not (pt_chain op_le op_le pe_int (pe_callB (lenS K) rfl T.b_len PySem.boot_len (pa_cons (pv 0) pa_nil)) (pe_glob (v := .int 30) rfl T.i_MOST_PLACES.choose_spec ⟨_, rfl⟩))) (pw_or1 (pt_cmpR op_notN (pe_ix (ixT K) (pv 0) pe_int (fun _ _ => rfl)) pe_non (nomark _)))))) (pss_one (ps_ret pe_bl)) pss_nil)
      (pss_one (ps_ret (pe_callB (allL K rfl) rfl T.b_all (by decide +kernel) (pa_cons (pe_lc (own := [("k", 1)]) (g := gName 1) rfl sc_is_land.nd (pi_range2 rfl T.b_range (pa_cons pe_int (pa_cons (pe_callB (lenS K) rfl T.b_len PySem.boot_len (pa_cons (pv 0) pa_nil)) pa_nil))) (blkOk_by (own := [("k", 1)]) (N := ["thing", "k"]) (sc := (defScope s_is_land)) (by decide +kernel)) (fun _ _ _ _ _ => pg_name (i := 1) sc_is_land.nd rfl (Or.inl rfl)) (fun _ _ _ _ _ => pts_nil) (fun _ _ _ _ _ => (pcall (c_is_whole T) (hr.mono (by omega)) (pa_cons (pe_ix (ixT K) (pv 0) (pv 1) (fun _ _ => rfl)) (pa_cons pe_int (pa_cons (pe_op op_sub (pv 1) pe_int) pa_nil)))))) pa_nil))))), ?_⟩
    cases o with
    | none =>
      obtain ⟨t, ty, kb⟩ := ht H (Same.refl _)
      exact ⟨_, rfl, v, .ty "tuple", .type t, .type "tuple", false, rfl, .ty "tuple", ty, kit_ty kb, false, rfl, iteT (iteT (q H (Same.refl _)))⟩
    | some xs =>
      obtain ⟨a, rfl, hS, hl, _⟩ := ht H (Same.refl _)
      have no : landB (some xs) = false → Q (.bl false) H := fun h => by have := q H (Same.refl _); rw [h] at this; exact this
      refine ⟨_, rfl, .ref a, .ty "tuple", .type "tuple", .type "tuple", true, rfl, .ty "tuple", tyT hS, kit_ty (by decide +kernel), true, rfl, iteF ?_⟩
      by_cases h1 : 1 ≤ xs.length
      · refine ⟨_, rfl, a, _, rfl, .inr hS, 1, _, rfl, rfl, true, congrArg V.bl (decide_eq_true (by omega)), iteT ?_⟩
        by_cases h30 : xs.length ≤ 30
        · refine ⟨_, _, rfl, rfl, true, congrArg V.bl (decide_eq_true (by omega)), iteF ?_⟩
          have hx0 : xs[0]? = some (xs.getD 0 (.int 0)) := by
            rw [List.getD_eq_getElem?_getD, List.getElem?_eq_getElem (by omega)]
            rfl
          refine ⟨_, rfl, a, _, 0, _, rfl, rfl, hS, atI_nat (j := 0) hx0, rfl, _, rfl, ?_⟩
          rw [← isNonV_eq]
          cases hn : isNonV (xs.getD 0 (.int 0)) with
          | false =>
            refine iteT (no ?_)
            rw [landB_some]
            rw [hn]
            simp
          | true =>
            refine iteF ?_
            refine ⟨_, rfl, a, _, rfl, .inr hS, _, _, rfl, ⟨by decide, by decide, by omega, by omega⟩, fun D hD => ?_⟩
            refine lc_rel walk_range hD (by omega) (fun _ _ => trivial) (fun i => true) (fun i v _ => v = .bl (isWholeV (xs.getD (i + 1) .non) 0 (i : Int))) (fun _ _ _ _ _ _ _ h => h) (fun i x H2 H3 l hi s1 hy y => ?_) (fun ys H2 s1 hy hp => ?_)
            · obtain ⟨rfl, rfl⟩ := y
              have e1 : (1 : Int) + (i : Int) = ((i + 1 : Nat) : Int) := by omega
              have hi1 : i + 1 < xs.length := by omega
              have hxi : xs[i + 1]? = some (xs.getD (i + 1) .non) := by
                rw [List.getD_eq_getElem?_getD, List.getElem?_eq_getElem hi1]
                rfl
              dsimp only
              rw [e1]
              refine ⟨Same.refl _, rfl, fun Q' q' => q' H3 (Same.refl _), fun _ H4 s4 Q' q' => ?_⟩
              obtain ⟨a', ea, hS', _, hth⟩ := ht H4 (s1.trans s4)
              cases ea
              refine ⟨_, rfl, _, rfl, a, _, _, _, rfl, rfl, hS', atI_nat hxi, _, rfl, _, _, rfl, rfl, _, _, _, rfl, hth _ (List.mem_of_getElem? hxi), ?_⟩
              refine q' _ H4 (Same.refl _) ?_
              rw [show ((i + 1 : Nat) : Int) - 1 = (i : Int) by omega]
            · rw [show (List.range ((xs.length : Int) - 1).toNat).filter (fun _ => true) = List.range (xs.length - 1) by rw [show ((xs.length : Int) - 1).toNat = xs.length - 1 by omega]; simp] at hp
              have e := all_bools (g := fun i => isWholeV (xs.getD (i + 1) .non) 0 (i : Int)) hp
              refine ⟨D, _, rfl, sql (by rw [hy, e]), ?_⟩
              have := q H2 s1
              rw [landB_some] at this
              rw [decide_eq_true ⟨h1, h30⟩, hn, Bool.true_and, Bool.true_and] at this
              rw [List.all_map]
              exact this
        · refine ⟨_, _, rfl, rfl, false, congrArg V.bl (decide_eq_false (by omega)), iteT (no ?_)⟩
          rw [landB_some]
          rw [decide_eq_false (fun z => h30 z.2)]
          rfl
      · refine ⟨_, rfl, a, _, rfl, .inr hS, 1, _, rfl, rfl, false, congrArg V.bl (decide_eq_false (by omega)), iteF ⟨false, rfl, iteT (no ?_)⟩⟩
        rw [landB_some]
        rw [decide_eq_false (fun z => h1 z.1)]
        rfl
def sp_is_worksG (K : PySem.W.Frag) : Sp := fun vs H Q _ => ∃ v o, vs = [v] ∧ ThT K H v o ∧ Q (.bl (worksB o)) H
def sp_is_wantsG (K : PySem.W.Frag) : Sp := fun vs H Q _ => ∃ b xs0 v o, vs = [.ref b, v] ∧ SqT K H b xs0 ∧ (∀ H', Same H H' → ThT K H' v o) ∧ ∀ H', Same H H' → Q (.bl (wantsB xs0.length o)) H'
theorem c_is_wantsG (T : Txt K mg) : Cal P w K mg base CX0 2 "is_wants" ["land", "thing"] (sp_is_wantsG K) := by
  refine cal0 T.d_is_wants sc_is_wants (fun _ _ _ _ _ _ us hl => match us, hl with | [_, _], _ => rfl) (fun vs H Q E h => ?_) (fun f cdv A outer s H vs Q E hr h => ?_)
  · obtain ⟨b, xs0, v, o, rfl, _⟩ := h
    rfl
  · obtain ⟨b, xs0, v, o, rfl, hB, ht, q⟩ := h
    refine ⟨_, (pss_cons (ps_if (PW.pt (pw_or (pt_not (pt_val (pe_callB (isi K) rfl T.b_isinstance (by decide +kernel) (pa_cons (pv 1) (pa_cons (pe_bltn (v := .ty "tuple") rfl T.b_tuple (by decide +kernel) rfl) pa_nil))))) (pw_or1 (pt_cmpR op_ne (pe_callB (lenS K) rfl T.b_len PySem.boot_len (pa_cons (pv 1) pa_nil)) (pe_callB (lenS K) rfl T.b_len PySem.boot_len (pa_cons (pv 0) pa_nil)) (nomark _))))) (pss_one (ps_ret pe_bl)) pss_nil)
      (pss_one (ps_ret (pe_callB (allL K rfl) rfl T.b_all (by decide +kernel) (pa_cons (pe_lc (own := [("one", 2)]) (g := gName 2) rfl sc_is_wants.nd (piT K (pv 1)) (blkOk_by (own := [("one", 2)]) (N := ["land", "thing", "one"]) (sc := (defScope s_is_wants)) (by decide +kernel)) (fun _ _ _ _ _ => pg_name (i := 2) sc_is_wants.nd rfl (Or.inl rfl)) (fun _ _ _ _ _ => pts_nil) (fun _ _ _ _ _ => (pe_or (pe_cmpR op_isN (pv 2) pe_non (nomark _)) (pe_one (pcall (c_is_whole T) (hr.mono (by omega)) (pa_cons (pv 2) (pa_cons pe_int (pa_cons (pe_glob (v := .int 999) rfl T.i_MOST_WANT.choose_spec ⟨_, rfl⟩) pa_nil)))))))) pa_nil))))), ?_⟩
    cases o with
    | none =>
      obtain ⟨t, ty, kb⟩ := ht H (Same.refl _)
      exact ⟨_, rfl, v, .ty "tuple", .type t, .type "tuple", false, rfl, .ty "tuple", ty, kit_ty kb, false, rfl, iteT (iteT (q H (Same.refl _)))⟩
    | some xs =>
      obtain ⟨a, rfl, hS, hl, _⟩ := ht H (Same.refl _)
      refine ⟨_, rfl, .ref a, .ty "tuple", .type "tuple", .type "tuple", true, rfl, .ty "tuple", tyT hS, kit_ty (by decide +kernel), true, rfl, iteF ?_⟩
      refine ⟨_, rfl, a, _, rfl, .inr hS, _, rfl, b, _, rfl, .inr hB, rfl, _, rfl, ?_⟩
      simp only [wantsB_some] at q
      by_cases hn : xs.length = xs0.length
      · rw [show decide (V.int ((xs.length : Nat) : Int) = V.int ((xs0.length : Nat) : Int)) = true from decide_eq_true (by rw [hn])]
        rw [decide_eq_true hn, Bool.true_and] at q
        refine iteF ?_
        refine ⟨_, rfl, a, rfl, ⟨_, hS⟩, fun D hD => ?_⟩
        refine lc_rel (walk_tup (xs := xs)) hD (by omega) (fun H' s => same_t s hS) (fun i => true) (fun i v _ => v = .bl (isNonV (xs.getD i .non) || isWholeV (xs.getD i .non) 0 999)) (fun _ _ _ _ _ _ _ h => h) (fun i x H2 H3 l hi s1 hy y => ?_) (fun ys H2 s1 hy hp => ?_)
        · obtain ⟨rfl, hx⟩ := y
          have ex : xs.getD i .non = x := by rw [List.getD_eq_getElem?_getD, hx]; rfl
          refine ⟨Same.refl _, rfl, fun Q' q' => q' H3 (Same.refl _), fun _ H4 s4 Q' q' => ?_⟩
          obtain ⟨a', ea, hS', _, hth⟩ := ht H4 (s1.trans s4)
          rw [ex] at q'
          refine ⟨_, rfl, rfl, _, rfl, ?_⟩
          rw [← isNonV_eq]
          cases hnv : isNonV x with
          | true =>
            rw [hnv] at q'
            exact iteT (q' _ H4 (Same.refl _) rfl)
          | false =>
            rw [hnv, Bool.false_or] at q'
            exact iteF ⟨_, rfl, _, _, _, rfl, hth x (List.mem_of_getElem? hx), q' _ H4 (Same.refl _) rfl⟩
        · rw [show (List.range xs.length).filter (fun _ => true) = List.range xs.length by simp] at hp
          have e := all_bools (g := fun i => isNonV (xs.getD i .non) || isWholeV (xs.getD i .non) 0 999) hp
          refine ⟨D, _, rfl, sql (by rw [hy, e]), ?_⟩
          have e2 : ((List.range xs.length).map fun i => isNonV (xs.getD i .non) || isWholeV (xs.getD i .non) 0 999) = xs.map fun x => isNonV x || isWholeV x 0 999 := by
            have := congrArg (List.map fun x => isNonV x || isWholeV x 0 999) (Oat.range_getD xs .non)
            rw [List.map_map] at this
            exact this
          rw [e2, List.all_map]
          exact q H2 s1
      · rw [show decide (V.int ((xs.length : Nat) : Int) = V.int ((xs0.length : Nat) : Int)) = false from decide_eq_false (fun z => by injection z with z; omega)]
        rw [decide_eq_false hn] at q
        exact iteT (q H (Same.refl _))
end
end Oa
namespace Oa
open PySem PySem.Spec PyProof.Rows L2 Oat
mutual
theorem noDict_of : ∀ d : PyData, PyData.canLay0 d = true → noDict d = true
  | .none, _ => by simp [noDict]
  | .bool _, _ => by simp [noDict]
  | .int _, _ => by simp [noDict]
  | .str _, _ => by simp [noDict]
  | .list xs, h => by simp only [noDict]; exact noDictAll_of xs (by simpa only [PyData.canLay0] using h)
  | .tuple xs, h => by simp only [noDict]; exact noDictAll_of xs (by simpa only [PyData.canLay0] using h)
  | .dict _, h => by simp [PyData.canLay0] at h
theorem noDictAll_of : ∀ ds : List PyData, PyData.canLayAll0 ds = true → noDictAll ds = true
  | [], _ => by simp [noDictAll]
  | d :: ds, h => by
    simp only [PyData.canLayAll0, Bool.and_eq_true] at h
    simp only [noDictAll, noDict_of d h.1, noDictAll_of ds h.2, Bool.and_self]
end
end Oa
namespace Oa
open PySem PySem.Spec PyProof.Rows L2 Oat
section
variable {P : Program} {w : World} {K : PySem.W.Frag} {mg : Str → Option Value} {base : Heap}
theorem calX {CX : CXT} {x : Str} {st : Stmt} {N ps : List Str} {k : Nat} {sp : Sp} (D : Dfn K mg x st []) (S : FnScope N ps (defScope st))
    (bnd : ∀ (kV doc pm : Value) (an : Option Addr) (cdv ct : Value) (us : List Value), us.length = ps.length → bindArgs (PySem.W.fnOf x x (defArgs st) (defBody st) (defScope st) .none kV doc pm an cdv ct) ⟨us, []⟩ = pure (ps.zip us))
    (len : ∀ vs H Q E, sp vs H Q E → vs.length = ps.length)
    (hbody : ∀ (f : Addr) (cdv : Value) (A : Around) (outer : List Env) (s : Shared) (H : Hp) (vs : List V) (Q : VK) (E : XK), Room k (A.deeper (envOfC x (defScope st) s.heap.objs.size f cdv)) → sp vs H Q E →
      ∃ t, PSs (cxOf CX P w K mg base N x (defScope st) f cdv A outer s H E) (defBody st) t ∧ t { nx := fun _ H' => Q .non H', rt := Q } (start N vs) H) : Cal P w K mg base CX (k + 1) x ps sp := by
  obtain ⟨f, fd, g, F⟩ := D
  exact ⟨f, fd, g, F.kp, F.bindsN bnd, F.ok S len fun cdv A outer s H vs Q E hr h => hbody f cdv A outer s H vs Q E hr h⟩
theorem ne_sameD {H : Hp} {x y : V} {d : PyData} {Q : VK} (hx : Dp K H x d) (hy : Dp K H y d) (hs : SeqAt.shaped d = true) (q : Q (.bl false) H) : rNeD K x y H Q := by
  refine ⟨d, d, hx, hy, hs, hs, ?_⟩
  rw [eqv_refl d (noDict_of d (Bool.and_eq_true_iff.mp hs).1)]
  exact q
theorem eq_same {H : Hp} {x y : V} {d : PyData} {Q : VK} (hx : Dp K H x d) (hy : Dp K H y d) (hs : SeqAt.shaped d = true) (q : Q (.bl true) H) : rEqD K x y H Q := by
  refine ⟨d, d, hx, hy, hs, hs, ?_⟩
  rw [eqv_refl d (noDict_of d (Bool.and_eq_true_iff.mp hs).1)]
  exact q
end
end Oa
namespace Oa
open PySem PySem.Spec PyProof.Rows L2 Oat
theorem ifS_no2 {t : TT} {tu tw : TS} {D : Ends} {σ : L2.St} {H : Hp} (S : Hp → Prop) (h : ∀ Q : Bool → Hp → Prop, (∀ H', S H' → Q false H') → t σ H Q) (h2 : ∀ H', S H' → tw D σ H') : tIfS t tu tw D σ H :=
  h _ fun H' s => h2 H' s
end Oa
namespace Oa
open PySem PySem.Spec PyProof.Rows L2 Oat
section
variable {P : Program} {w : World} {K : PySem.W.Frag} {mg : Str → Option Value} {base : Heap}
/-! ### the looks, of things of any kind -/
def sp_look_landX (K : PySem.W.Frag) : Sp := fun vs H Q E => ∃ v o, vs = [v] ∧ (∀ H', Same H H' → ThT K H' v o) ∧ (landB o = false → ∀ H', Same H H' → E (.ref (He.ga K "BadLand")) none H') ∧ (landB o = true → ∀ H', Same H H' → Q .non H')
theorem c_look_landX (T : Txt K mg) (R : Errs K mg) : Cal P w K mg base (L2.CX P w) 3 "look_land" ["land"] (sp_look_landX K) := by
  refine calX T.d_look_land sc_look_land (fun _ _ _ _ _ _ us hl => match us, hl with | [_], _ => rfl) (fun vs H Q E h => ?_) (fun f cdv A outer s H vs Q E hr h => ?_)
  · obtain ⟨v, o, rfl, _⟩ := h
    rfl
  · obtain ⟨v, o, rfl, ht, qe, q⟩ := h
    refine ⟨_, (pss_one (ps_if (pt_not (pt_val (pcall (c_is_landG T) (hr.mono (by omega)) (pa_cons (pv 0) pa_nil)))) (pss_one (ps_raise rfl (takes_of rfl rfl rfl rfl) (pmkE R (by decide +kernel) (by decide +kernel) rfl))) pss_nil)), ?_⟩
    refine ⟨_, rfl, v, o, rfl, ht, fun H1 s1 => ⟨_, rfl, ?_⟩⟩
    cases hl : landB o with
    | false => exact iteT (qe hl H1 s1)
    | true => exact iteF (q hl H1 s1)
theorem land_tht {H : Hp} {a : Addr} {L : List Nat} (h : SqT K H a (landV L)) (hl : L.length < 30) : ThT K H (.ref a) (some (landV L)) :=
  tht_tup h (by rw [landV_len]; omega) fun x hx => by
    rcases List.mem_cons.mp hx with rfl | hx
    · exact .inl rfl
    · obtain ⟨k, _, rfl⟩ := List.mem_map.mp hx
      exact .inr (.inl ⟨_, rfl⟩)
theorem land_ok {L : List Nat} (hl : L.length < 30) (wf : WfL L) : landB (some (landV L)) = true := by
  rw [landB_some, landV_len, decide_eq_true ⟨by omega, by omega⟩, Bool.true_and]
  show (true && _) = true
  rw [Bool.true_and, List.all_eq_true]
  intro i hi
  have hi := List.mem_range.mp hi
  have e : (landV L).getD (i + 1) .non = .int ((L.getD i 0 : Nat) : Int) := by
    rw [List.getD_eq_getElem?_getD, landV_at (by omega)]
    rfl
  rw [e]
  have := wf i (by omega)
  exact decide_eq_true ⟨by omega, by omega⟩
end
end Oa
namespace Oa
open PySem PySem.Spec PyProof.Rows L2 Oat
section
variable {X : Cx} {k : Nat} {x : Str} {ps : List Str} {sp : Sp} {p pos : Pos}
theorem pcall0 (c : Cal X.prog X.w X.K X.mg X.base CX0 k x ps sp) (hr : Room k X.A) (hg : Gl X x := by rfl) (hdb : (x == ("__debug__" : Str)) = false := by decide) : PE X (.Call (.Name x p) [] [] pos) (tCall sp [] E0 tNil) := by
  obtain ⟨f, fd, g, kp, b, F⟩ := c
  exact pe_call0 F hr hg g kp b .nil pass0 hdb
end
section
variable {P : Program} {w : World} {K : PySem.W.Frag} {mg : Str → Option Value} {base : Heap}
/-! ### comprehensions of plain values -/
theorem all_vals : ∀ {xs : List Nat} {ys : List V} {g : Nat → V}, Paired (fun (i : Nat) v => v = g i) xs ys → ys = xs.map g
  | _, _, _, .nil => rfl
  | _, _, _, .cons a b => by rw [a, all_vals b]; rfl
theorem lc_vals {J : It} {n : Nat} {G : Hp → Prop} {Y : Nat → Hp → V → Hp → Prop} (w : Walk J n G Y) {te : TE} {vs : List Nat} {σ : L2.St} {j : Nat} {H1 : Hp} {D : Addr} {Qd : Hp → Prop} (hD : H1 D = none) (hn : n ≤ 1000)
    (hG : ∀ H, Same H1 H → G H) (g : Nat → V)
    (step : ∀ i x H2 H3, i < n → Same H1 H2 → Y i H2 x H3 → Same H2 H3 ∧ wipe ((wipe σ vs).set j (some x)) vs = wipe σ vs ∧
      ∀ H4, Same H1 H4 → ∀ Q : VK, (∀ H5, Same H4 H5 → Q (g i) H5) → te ((wipe σ vs).set j (some x)) H4 Q)
    (q : ∀ H2, Same H1 H2 → H2 D = some (.lst ((List.range n).map g)) → Qd H2) :
    ∃ W : Nat → Nat → Hp → Prop, (∃ m, W 0 m (upd H1 D (.lst []))) ∧ ∀ i m H, W i m H →
      (J.stop i H ∧ Qd H) ∨ (J.go i H ∧ ∃ Nx : Hp → Prop, (∀ H', Nx H' → ∃ m', m' < m ∧ W (i + 1) m' H') ∧ ∀ x H', J.yld i H x H' → gName j x (wipe σ vs) H' fun σ2 H2 => wipe σ2 vs = wipe σ vs ∧ tYes σ2 H2 fun b H3 =>
        if b = true then te σ2 H3 fun y H4 => ∃ acc, H4 D = some (.lst acc) ∧ acc.length < sizeLine ∧ Nx (upd H4 D (.lst (acc ++ [y]))) else Nx H3) := by
  refine lc_rel w hD hn hG (fun _ => true) (fun i v _ => v = g i) (fun _ _ _ _ _ _ _ h => h) (fun i x H2 H3 l hi s1 hy y => ?_) (fun ys H2 s1 hy hp => ?_)
  · obtain ⟨s2, e, h⟩ := step i x H2 H3 hi s1 y
    exact ⟨s2, e, fun Q' q' => q' H3 (Same.refl _), fun _ H4 s4 Q' q' => h H4 (s1.trans (s2.trans s4)) Q' fun H5 s5 => q' _ H5 s5 rfl⟩
  · refine q H2 s1 ?_
    rw [show (List.range n).filter (fun _ => true) = List.range n by simp] at hp
    rw [hy, all_vals hp]
/-! ### lists of things of any kind -/
def ThS (K : PySem.W.Frag) (H : Hp) (v : V) (o : Option (List V)) : Prop := ∀ H', Same H H' → ThT K H' v o
theorem ThS.same {H H' : Hp} {v : V} {o : Option (List V)} (h : ThS K H v o) (s : Same H H') : ThS K H' v o := fun _ s' => h _ (s.trans s')
def Mk1 (K : PySem.W.Frag) (t : TE) (σ : L2.St) (o : Option (List V)) : Prop := ∀ H (Q : VK), (∀ v H', Same H H' → ThS K H' v o → Q v H') → t σ H Q
def MkA (K : PySem.W.Frag) (t : TA) (σ : L2.St) (os : List (Option (List V))) : Prop := ∀ H (Q : List V → Hp → Prop), (∀ vs H', Same H H' → Paired (ThS K H') vs os → Q vs H') → t σ H Q
def FlA (t : TA) (σ : L2.St) (xs : List V) : Prop := ∀ H (Q : List V → Hp → Prop), Q xs H → t σ H Q
def flatV : V → Bool
  | .non => true
  | .int _ => true
  | .bl _ => true
  | .str _ => true
  | _ => false
theorem flat_of {v : V} (h : flatV v = true) : Flat v := by
  cases v with
  | non => exact .inl rfl
  | int i => exact .inr (.inl ⟨i, rfl⟩)
  | bl b => exact .inr (.inr (.inl ⟨b, rfl⟩))
  | str s => exact .inr (.inr (.inr ⟨s, rfl⟩))
  | _ => cases h
theorem flats_of {xs : List V} (h : xs.all flatV = true) : ∀ x ∈ xs, Flat x := fun x hx => flat_of (List.all_eq_true.mp h x hx)
theorem mk_nil {σ : L2.St} : MkA K tNil σ [] := fun H Q q => q [] H (Same.refl _) .nil
theorem mk_cons {σ : L2.St} {t : TE} {tr : TA} {o : Option (List V)} {os : List (Option (List V))} (h : Mk1 K t σ o) (hr : MkA K tr σ os) : MkA K (tCons t tr) σ (o :: os) := fun H Q q =>
  h H _ fun v H1 s1 hv => hr H1 _ fun vs H2 s2 hvs => q _ _ (s1.trans s2) (.cons (hv.same s2) hvs)
theorem mk_non {σ : L2.St} : Mk1 K (tC .non) σ none := fun H Q q => q _ H (Same.refl _) fun _ _ => tht_non
theorem mk_int {σ : L2.St} {i : Int} : Mk1 K (tC (.int i)) σ none := fun H Q q => q _ H (Same.refl _) fun _ _ => tht_int
theorem ths_tup {H : Hp} {a : Addr} {xs : List V} (h : SqT K H a xs) (hl : xs.length ≤ 100) (hf : xs.all flatV = true) : ThS K H (.ref a) (some xs) := fun H' s => tht_tup (same_t s h) hl (flats_of hf)
theorem ths_lst {H : Hp} {a : Addr} {xs : List V} (h : SqL K H a xs) : ThS K H (.ref a) none := fun H' s => tht_lst (same_l s h)
theorem size100 {n : Nat} (h : n ≤ 100) : n ≤ sizeLine := Nat.le_trans h (by decide)
theorem mk_tup {σ : L2.St} {t : TA} {xs : List V} (h : FlA t σ xs) (hl : xs.length ≤ 100) (hf : xs.all flatV = true) : Mk1 K (tTup t) σ (some xs) := fun H Q q =>
  h H _ ⟨size100 hl, fun p np => q _ _ (same_new np) (ths_tup (sqt upd_same) hl hf)⟩
theorem mk_lst {σ : L2.St} {t : TA} {xs : List V} (h : FlA t σ xs) (hl : xs.length ≤ 100) : Mk1 K (tLst t) σ none := fun H Q q =>
  h H _ ⟨size100 hl, fun p np => q _ _ (same_new np) (ths_lst (sql upd_same))⟩
/-- (x, ..) * k -/
theorem mk_rep {σ : L2.St} {t : TA} {xs : List V} {k : Int} (h : FlA t σ xs) (hl : xs.length ≤ 100) (hne : xs ≠ []) (h2 : 2 ≤ k) (hk : k ≤ 100) (hr : (List.replicate k.toNat xs).flatten.length ≤ 100) (hf : (List.replicate k.toNat xs).flatten.all flatV = true) : Mk1 K (tOp (rRepT K) (tTup t) (tC (.int k))) σ (some (List.replicate k.toNat xs).flatten) := fun H Q q =>
  h H _ ⟨size100 hl, fun p np => ⟨p, k, xs, rfl, rfl, sqt upd_same, hne, h2, by omega, by omega, fun p2 np2 => q _ _ ((same_new np).trans (same_new np2)) (ths_tup (sqt upd_same) hr hf)⟩⟩
/-- (y, ..) + (x, ..) * k -/
theorem mk_cat {σ : L2.St} {t u : TA} {ys xs : List V} {k : Int} (h : FlA t σ xs) (g : FlA u σ ys) (hl : xs.length ≤ 100) (gl : ys.length ≤ 100) (hne : xs ≠ []) (h2 : 2 ≤ k) (hk : k ≤ 100) (hr : (ys ++ (List.replicate k.toNat xs).flatten).length ≤ 100) (hf : (ys ++ (List.replicate k.toNat xs).flatten).all flatV = true) :
    Mk1 K (tOp (rCatA K) (tTup u) (tOp (rRepT K) (tTup t) (tC (.int k)))) σ (some (ys ++ (List.replicate k.toNat xs).flatten)) := fun H Q q =>
  g H _ ⟨size100 gl, fun p0 np0 => h _ _ ⟨size100 hl, fun p np => ⟨p, k, xs, rfl, rfl, sqt upd_same, hne, h2, by omega, by omega, fun p2 np2 => by
    have s1 := (same_new (o := .tup xs) np).trans (same_new (o := .tup (List.replicate k.toNat xs).flatten) np2)
    refine catA_any (xs := ys) (ys := (List.replicate k.toNat xs).flatten) (same_t s1 (sqt upd_same)) (sqt upd_same) (by rw [List.length_append] at hr; exact size100 hr) fun p3 H3 s3 h3 => ?_
    exact q _ _ ((same_new np0).trans (s1.trans s3)) (ths_tup h3 hr hf)⟩⟩⟩
def Kinds (K : PySem.W.Frag) (H : Hp) (l : Addr) (os : List (Option (List V))) : Prop := ∃ vs, SqL K H l vs ∧ Paired (ThS K H) vs os
theorem Kinds.same {H H' : Hp} {l : Addr} {os : List (Option (List V))} (h : Kinds K H l os) (s : Same H H') : Kinds K H' l os := by
  obtain ⟨vs, h1, h2⟩ := h
  exact ⟨vs, same_l s h1, paired_imp h2 fun _ _ z => z.same s⟩
theorem mk_kinds {σ : L2.St} {t : TA} {os : List (Option (List V))} {H : Hp} {Q : VK} (h : MkA K t σ os) (hl : os.length ≤ 100) (q : ∀ l H', Same H H' → Kinds K H' l os → Q (.ref l) H') : tLst t σ H Q :=
  h H _ fun vs H1 s1 hp => ⟨by rw [Paired.length hp]; exact size100 hl, fun l nl => q l _ (s1.trans (same_new nl)) ⟨vs, sql upd_same, paired_imp hp fun _ _ z => z.same (same_new nl)⟩⟩
theorem asg_kinds {σ : L2.St} {t : TA} {i : Nat} {tr : TS} {D : Ends} {H : Hp} (os : List (Option (List V))) (h : MkA K t σ os) (hl : os.length ≤ 100) (q : ∀ l H', Same H H' → Kinds K H' l os → tr D (σ.set i (some (.ref l))) H') : tSeq (tAsg (tLst t) (gName i)) tr D σ H := by
  show tLst t σ H fun x H1 => tr D (σ.set i (some x)) H1
  exact mk_kinds h hl q
theorem paired_at2 {α β : Type} {R : α → β → Prop} : ∀ {xs : List α} {ys : List β} {i : Nat} {x : α}, Paired R xs ys → xs[i]? = some x → ∃ y, ys[i]? = some y ∧ R x y
  | _, _, 0, _, .cons a _, h => by cases h; exact ⟨_, rfl, a⟩
  | _, _, i + 1, _, .cons _ b, h => paired_at2 (i := i) b h
/-- [f(one) for one in l], one at j -/
theorem lc_kinds {te : TE} {vs : List Nat} {σ : L2.St} {i j : Nat} {l : Addr} {os : List (Option (List V))} {H : Hp} {Q : VK} (hσ : σ[i]? = some (some (.ref l))) (hk : Kinds K H l os) (hl : os.length ≤ 100) (B : Option (List V) → Bool)
    (hw : ∀ x, wipe ((wipe σ vs).set j (some x)) vs = wipe σ vs)
    (step : ∀ v o H4, Same H H4 → ThS K H4 v o → ∀ Q' : VK, (∀ H5, Same H4 H5 → Q' (.bl (B o)) H5) → te ((wipe σ vs).set j (some v)) H4 Q')
    (q : ∀ D H2, Same H H2 → H2 D = some (.lst (os.map fun o => V.bl (B o))) → Q (.ref D) H2) : tLc (iList K (tVar i)) (gName j) tYes te vs σ H Q := by
  obtain ⟨xs, hx, hp⟩ := hk
  have hlen := Paired.length hp
  refine ⟨_, hσ, l, rfl, ⟨_, hx⟩, fun D hD => ?_⟩
  refine lc_vals (walk_list (xs := xs)) hD (by omega) (fun H' s => same_l s hx) (fun i => V.bl (B (os.getD i none))) (fun i' x H2 H3 hi s1 y => ?_) (fun H2 s1 hy => ?_)
  · obtain ⟨rfl, hxi⟩ := y
    obtain ⟨o, ho, ht⟩ := paired_at2 hp hxi
    refine ⟨Same.refl _, hw x, fun H4 s4 Q' q' => ?_⟩
    have : os.getD i' none = o := by rw [List.getD_eq_getElem?_getD, ho]; rfl
    rw [this] at q'
    exact step x o H4 s4 (ht.same s4) Q' q'
  · refine q D H2 s1 ?_
    rw [hy, hlen]
    have := congrArg (List.map fun o => V.bl (B o)) (Oat.range_getD os none)
    rw [List.map_map] at this
    rw [← this]
    rfl
theorem dp_bools {H : Hp} : ∀ {bs : List Bool}, DpAll K H (bs.map V.bl) (bs.map PyData.bool)
  | [] => .nil
  | b :: bs => .cons (.bl b) dp_bools
theorem canLay_bools : ∀ bs : List Bool, PyData.canLayAll0 (bs.map PyData.bool) = true
  | [] => by simp [PyData.canLayAll0]
  | c :: cs => by simp only [List.map_cons, PyData.canLayAll0, PyData.canLay0, canLay_bools cs, Bool.and_self]
theorem depth_bools : ∀ bs : List Bool, PyData.depthAll (bs.map PyData.bool) ≤ 1
  | [] => by simp [PyData.depthAll]
  | c :: cs => by
    have := depth_bools cs
    simp only [List.map_cons, PyData.depthAll, PyData.depth]
    omega
theorem shaped_bools (bs : List Bool) : SeqAt.shaped (.list (bs.map PyData.bool)) = true := by
  have h1 := canLay_bools bs
  have h2 := depth_bools bs
  unfold SeqAt.shaped
  refine Bool.and_eq_true_iff.mpr ⟨by simp only [PyData.canLay0, h1], decide_eq_true ?_⟩
  simp only [PyData.depth]
  omega
/-- .. [b] * n, beside the list at D -/
theorem rep_bools {σ : L2.St} {H : Hp} {D : Addr} {b : Bool} {n : Int} {bs : List Bool} {Q : VK} (hD : H D = some (.lst (bs.map V.bl))) (h0 : 0 ≤ n) (hn : n ≤ 100) (hb : bs = List.replicate n.toNat b)
    (q : ∀ l H', Same H H' → Dp K H' (.ref D) (.list (bs.map PyData.bool)) → Dp K H' (.ref l) (.list (bs.map PyData.bool)) → Q (.ref l) H') : tOp rRep (tLst (tCons (tC (.bl b)) tNil)) (tC (.int n)) σ H Q := by
  refine ⟨by show 1 ≤ sizeLine; decide, fun l1 n1 => ⟨l1, n, _, rfl, rfl, upd_same, by omega, by omega, ?_, fun l2 n2 => ?_⟩⟩
  · show 1 * n.toNat ≤ sizeLine
    exact size100 (by omega)
  have s1 := same_new (o := .lst [V.bl b]) n1
  have s2 := s1.trans (same_new (o := .lst (List.replicate n.toNat [V.bl b]).flatten) n2)
  refine q l2 _ s2 (.lst (sql (s2 _ _ hD)) dp_bools) (.lst (sql (xs := bs.map V.bl) ?_) dp_bools)
  rw [upd_same, hb, List.map_replicate]
  congr 2
  clear n2 s2 hb h0 hn
  induction n.toNat with
  | zero => rfl
  | succ m ih => rw [List.replicate_succ, List.replicate_succ, List.flatten_cons, ih]; rfl
theorem or_no {t u : TT} {σ : L2.St} {H : Hp} {Q : Bool → Hp → Prop} (S : Hp → Prop) (h : ∀ Q' : Bool → Hp → Prop, (∀ H', S H' → Q' false H') → t σ H Q') (h2 : ∀ H', S H' → u σ H' Q) : tOr t u σ H Q := h _ fun H' s => iteF (h2 H' s)
theorem and_yes {ta tb : TE} {σ : L2.St} {H : Hp} {Q : VK} (S : Hp → Prop) (h : ∀ Q' : VK, (∀ H', S H' → Q' (.bl true) H') → ta σ H Q') (h2 : ∀ H', S H' → tb σ H' Q) : tAndV ta tb σ H Q := h _ fun H' s => ⟨true, rfl, iteT (h2 H' s)⟩
section
variable {te : TE} {vs : List Nat} {σ : L2.St} {i j : Nat} {l : Addr} {os : List (Option (List V))} {H : Hp} {b : Bool} {n : Int}
theorem ne_kinds {Q : Bool → Hp → Prop} (hσ : σ[i]? = some (some (.ref l))) (hk : Kinds K H l os) (hl : os.length ≤ 100) (B : Option (List V) → Bool) (h0 : 0 ≤ n) (hn : n ≤ 100) (hb : os.map B = List.replicate n.toNat b)
    (hw : ∀ x, wipe ((wipe σ vs).set j (some x)) vs = wipe σ vs)
    (step : ∀ v o H4, Same H H4 → ThS K H4 v o → ∀ Q' : VK, (∀ H5, Same H4 H5 → Q' (.bl (B o)) H5) → te ((wipe σ vs).set j (some v)) H4 Q')
    (q : ∀ H2, Same H H2 → Q false H2) : tTest (tOp (rNeD K) (tLc (iList K (tVar i)) (gName j) tYes te vs) (tOp rRep (tLst (tCons (tC (.bl b)) tNil)) (tC (.int n)))) σ H Q := by
  refine lc_kinds (Q := fun x H1 => tOp rRep (tLst (tCons (tC (.bl b)) tNil)) (tC (.int n)) σ H1 fun y H2 => rNeD K x y H2 fun x H' => ∃ k, x = .bl k ∧ Q k H') hσ hk hl B hw step fun D H2 s2 e2 => ?_
  refine rep_bools (bs := os.map B) (K := K) (by rw [e2, List.map_map]; rfl) h0 hn hb fun l2 H3 s3 d1 d2 => ?_
  exact ne_sameD d1 d2 (shaped_bools _) ⟨false, rfl, q _ (s2.trans s3)⟩
theorem eq_kinds {Q : VK} (hσ : σ[i]? = some (some (.ref l))) (hk : Kinds K H l os) (hl : os.length ≤ 100) (B : Option (List V) → Bool) (h0 : 0 ≤ n) (hn : n ≤ 100) (hb : os.map B = List.replicate n.toNat b)
    (hw : ∀ x, wipe ((wipe σ vs).set j (some x)) vs = wipe σ vs)
    (step : ∀ v o H4, Same H H4 → ThS K H4 v o → ∀ Q' : VK, (∀ H5, Same H4 H5 → Q' (.bl (B o)) H5) → te ((wipe σ vs).set j (some v)) H4 Q')
    (q : ∀ H2, Same H H2 → Q (.bl true) H2) : tOp (rEqD K) (tLc (iList K (tVar i)) (gName j) tYes te vs) (tOp rRep (tLst (tCons (tC (.bl b)) tNil)) (tC (.int n))) σ H Q := by
  refine lc_kinds (Q := fun x H1 => tOp rRep (tLst (tCons (tC (.bl b)) tNil)) (tC (.int n)) σ H1 fun y H2 => rEqD K x y H2 Q) hσ hk hl B hw step fun D H2 s2 e2 => ?_
  refine rep_bools (bs := os.map B) (K := K) (by rw [e2, List.map_map]; rfl) h0 hn hb fun l2 H3 s3 d1 d2 => ?_
  exact eq_same d1 d2 (shaped_bools _) (q _ (s2.trans s3))
end
end
end Oa
namespace Oa
open PySem PySem.Spec PyProof.Rows L2 Oat
section
variable {P : Program} {w : World} {K : PySem.W.Frag} {mg : Str → Option Value} {base : Heap} {t n : Addr}
/-! ### lists of things that the town leaves alone -/
def ThU (K : PySem.W.Frag) (t n : Addr) (H : Hp) (v : V) (o : Option (List V)) : Prop := ∀ H', TSame t n H H' → ThT K H' v o
theorem ThU.s {H H' : Hp} {v : V} {o : Option (List V)} (h : ThU K t n H v o) (s : TSame t n H H') : ThS K H' v o := fun _ s' => h _ (s.trans (tsame_of s'))
section
variable {α : Type} {R : Hp → V → α → Prop} {σ : L2.St}
def MkR (t n : Addr) (R : Hp → V → α → Prop) (te : TE) (σ : L2.St) (o : α) : Prop := ∀ H (Q : VK), Town t n H → (∀ v H', Same H H' → R H' v o → Q v H') → te σ H Q
def MkRA (t n : Addr) (R : Hp → V → α → Prop) (ta : TA) (σ : L2.St) (os : List α) : Prop := ∀ H (Q : List V → Hp → Prop), Town t n H → (∀ vs H', Same H H' → Paired (R H') vs os → Q vs H') → ta σ H Q
def Mono (t n : Addr) (R : Hp → V → α → Prop) : Prop := ∀ {H H' : Hp} {v : V} {o : α}, TSame t n H H' → R H v o → R H' v o
theorem mr_nil : MkRA t n R tNil σ [] := fun H Q _ q => q [] H (Same.refl _) .nil
theorem mr_cons {te : TE} {tr : TA} {o : α} {os : List α} (m : Mono t n R) (h : MkR t n R te σ o) (hr : MkRA t n R tr σ os) : MkRA t n R (tCons te tr) σ (o :: os) := fun H Q hT q =>
  h H _ hT fun v H1 s1 hv => hr H1 _ (hT.same s1) fun vs H2 s2 hvs => q _ _ (s1.trans s2) (.cons (m (tsame_of s2) hv) hvs)
end
theorem mono_u : Mono t n (ThU K t n) := fun s h _ s' => h _ (s.trans s')
def EqR : Hp → V → V → Prop := fun _ v o => v = o
theorem mono_e : Mono t n EqR := fun _ h => h
section
variable {σ : L2.St}
theorem mu_non : MkR t n (ThU K t n) (tC .non) σ none := fun H Q _ q => q _ H (Same.refl _) fun _ _ => tht_non
theorem mu_int {i : Int} : MkR t n (ThU K t n) (tC (.int i)) σ none := fun H Q _ q => q _ H (Same.refl _) fun _ _ => tht_int
theorem mu_tup {ta : TA} {xs : List V} (h : FlA ta σ xs) (hl : xs.length ≤ 100) (hf : xs.all flatV = true) : MkR t n (ThU K t n) (tTup ta) σ (some xs) := fun H Q hT q =>
  h H _ ⟨size100 hl, fun p np => q _ _ (same_new np) fun H' s' => tht_tup ((hT.same (same_new np)).t s' (sqt upd_same)) hl (flats_of hf)⟩
theorem tht_new {H H' : Hp} {p : Addr} {xs : List V} (hT : Town t n H) (np : H p = none) (s : TSame t n (upd H p (.lst xs)) H') : ThT K H' (.ref p) none :=
  tht_lst (sql (s _ _ (hT.fresh np).1 (hT.fresh np).2 upd_same))
theorem mu_lst {ta : TA} {xs : List V} (h : FlA ta σ xs) (hl : xs.length ≤ 100) : MkR t n (ThU K t n) (tLst ta) σ none := fun H Q hT q =>
  h H _ ⟨size100 hl, fun p np => q _ _ (same_new np) fun H' s' => tht_new hT np s'⟩
theorem mu_rep {ta : TA} {xs : List V} {k : Int} (h : FlA ta σ xs) (hl : xs.length ≤ 100) (h0 : 0 ≤ k) (hk : k ≤ 100) (hr : xs.length * k.toNat ≤ 100) : MkR t n (ThU K t n) (tOp rRep (tLst ta) (tC (.int k))) σ none := fun H Q hT q =>
  h H _ ⟨size100 hl, fun p np => ⟨p, k, xs, rfl, rfl, upd_same, by omega, by omega, size100 hr, fun p2 np2 => q _ _ ((same_new np).trans (same_new np2)) fun H' s' => tht_new (hT.same (same_new np)) np2 s'⟩⟩
theorem me_c {v : V} : MkR t n EqR (tC v) σ v := fun H Q _ q => q _ H (Same.refl _) rfl
theorem me_op {te : TE} {v : V} (h : ∀ H (Q : VK), Q v H → te σ H Q) : MkR t n EqR te σ v := fun H Q _ q => h H _ (q _ H (Same.refl _) rfl)
end
/-- for bad in [..]: .. -/
theorem for_kinds {α : Type} {R : Hp → V → α → Prop} {ta : TA} {tb : TS} {D : Ends} {σ : L2.St} {H : Hp} {j : Nat} {y : Option V} (m : Mono t n R) (os : List α) (σf : Option V → L2.St) (hσ : σ = σf y) (hset : ∀ z v, (σf z).set j (some v) = σf (some v)) (hT : Town t n H) (mk : MkRA t n R ta σ os) (hl : os.length ≤ 100)
    (step : ∀ v o H' D', o ∈ os → TSame t n H H' → Town t n H' → R H' v o → (∀ H'', TSame t n H' H'' → Town t n H'' → Ends.nx D' (σf (some v)) H'') → tb D' (σf (some v)) H')
    (q : ∀ z H', TSame t n H H' → Town t n H' → D.nx (σf z) H') : tFor (iList K (tLst ta)) (gName j) tb D σ H := by
  refine mk H _ hT fun vs H1 s1 hp => ⟨by rw [Paired.length hp]; exact size100 hl, fun l nl => ?_⟩
  have hlen := Paired.length hp
  have hT1 := hT.same s1
  have s2 := same_new (o := .lst vs) nl
  refine ⟨l, rfl, ⟨vs, sql upd_same⟩, ?_⟩
  refine for_it (walk_list (xs := vs)) (fun i σ' H' => ∃ z, σ' = σf z ∧ TSame t n (upd H1 l (.lst vs)) H' ∧ Town t n H') ⟨y, hσ, TSame.refl _, hT1.same s2⟩ (fun i σ' H' _ p => ?_) (fun i x σ' H' H'' hi p y => ?_) (fun σ' H' p => ?_)
  · obtain ⟨z, _, s, _⟩ := p
    exact sql (s _ _ (hT1.fresh nl).1 (hT1.fresh nl).2 upd_same)
  · obtain ⟨z, rfl, s, hT'⟩ := p
    obtain ⟨rfl, hx⟩ := y
    obtain ⟨o, ho, hr⟩ := paired_at2 hp hx
    have s3 := (tsame_of (t := t) (n := n) s2).trans s
    show tb _ ((σf z).set j (some x)) H''
    rw [hset z x]
    exact step x o H'' _ (List.mem_of_getElem? ho) ((tsame_of s1).trans s3) hT' (m s3 hr) fun H3 s4 hT3 => ⟨_, rfl, s.trans s4, hT3⟩
  · obtain ⟨z, rfl, s, hT'⟩ := p
    exact q z H' ((tsame_of (s1.trans s2)).trans s) hT'
/-! ### lists of words -/
theorem dp_strs {H : Hp} : ∀ {ws : List Str}, DpAll K H (ws.map V.str) (ws.map PyData.str)
  | [] => .nil
  | b :: bs => .cons (.str b) dp_strs
theorem canLay_strs : ∀ ws : List Str, ws.all PyData.strOk = true → PyData.canLayAll0 (ws.map PyData.str) = true
  | [], _ => by simp [PyData.canLayAll0]
  | c :: cs, h => by
    rw [List.all_cons, Bool.and_eq_true] at h
    simp only [List.map_cons, PyData.canLayAll0, PyData.canLay0, canLay_strs cs h.2, h.1, Bool.and_self]
theorem depth_strs : ∀ ws : List Str, PyData.depthAll (ws.map PyData.str) ≤ 1
  | [] => by simp [PyData.depthAll]
  | c :: cs => by
    have := depth_strs cs
    simp only [List.map_cons, PyData.depthAll, PyData.depth]
    omega
theorem shaped_strs (ws : List Str) (h : ws.all PyData.strOk = true) : SeqAt.shaped (.list (ws.map PyData.str)) = true := by
  have h1 := canLay_strs ws h
  have h2 := depth_strs ws
  unfold SeqAt.shaped
  refine Bool.and_eq_true_iff.mpr ⟨by simp only [PyData.canLay0, h1], decide_eq_true ?_⟩
  simp only [PyData.depth]
  omega
section
variable {te tb : TE} {vs : List Nat} {σ : L2.St} {j : Nat} {H : Hp}
/-- [f(k) for k in ..] -/
theorem lc_words {J : It} {m : Nat} {G : Hp → Prop} {Y : Nat → Hp → V → Hp → Prop} (wk : Walk J m G Y) (hm : m ≤ 100) {H1 : Hp} {D : Addr} {Qd : Hp → Prop} (hT : Town t n H1) (hD : H1 D = none) (hG : ∀ H', TSame t n H1 H' → G H') (hY : ∀ i H x H', i < m → Y i H x H' → H' = H ∧ x = .int ((i : Nat) : Int)) (g : Nat → Str)
    (hw : ∀ x, wipe ((wipe σ vs).set j (some x)) vs = wipe σ vs)
    (step : ∀ (i : Nat) H4, i < m → TSame t n H1 H4 → Town t n H4 → ∀ Q' : VK, (∀ H5, TSame t n H4 H5 → Town t n H5 → Q' (.str (g i)) H5) → te ((wipe σ vs).set j (some (.int ((i : Nat) : Int)))) H4 Q')
    (q : ∀ H2, TSame t n H1 H2 → Town t n H2 → H2 D = some (.lst (((List.range m).map g).map V.str)) → Qd H2) :
    ∃ W : Nat → Nat → Hp → Prop, (∃ m, W 0 m (upd H1 D (.lst []))) ∧ ∀ i m H, W i m H →
      (J.stop i H ∧ Qd H) ∨ (J.go i H ∧ ∃ Nx : Hp → Prop, (∀ H', Nx H' → ∃ m', m' < m ∧ W (i + 1) m' H') ∧ ∀ x H', J.yld i H x H' → gName j x (wipe σ vs) H' fun σ2 H2 => wipe σ2 vs = wipe σ vs ∧ tYes σ2 H2 fun b H3 =>
        if b = true then te σ2 H3 fun y H4 => ∃ acc, H4 D = some (.lst acc) ∧ acc.length < sizeLine ∧ Nx (upd H4 D (.lst (acc ++ [y]))) else Nx H3) := by
  obtain ⟨Dt, Dn⟩ := hT.fresh hD
  refine lc_it wk (g := gName j) (fun i H => Town t n H ∧ TSame t n H1 H ∧ H D = some (.lst (((List.range i).map g).map V.str))) ⟨hT.upd Dt Dn, tsame_mut (TSame.refl _) hD, upd_same⟩ (fun i H _ p => hG H p.2.1) (fun i x H2 H3 hi p y => ?_) (fun H2 p => q H2 p.2.1 p.1 p.2.2)
  obtain ⟨hT2, s2, hD2⟩ := p
  obtain ⟨rfl, rfl⟩ := hY i H2 x H3 hi y
  refine ⟨hw _, ?_⟩
  unfold tYes
  dsimp only
  rw [if_pos rfl]
  refine step i H3 hi s2 hT2 _ fun H5 s5 hT5 => ?_
  have hD5 := s5 _ _ Dt Dn hD2
  refine ⟨_, hD5, ?_, hT5.upd Dt Dn, tsame_mut (s2.trans s5) hD, ?_⟩
  · rw [List.length_map, List.length_map, List.length_range]
    have := size100 (show i + 1 ≤ 100 by omega)
    omega
  · rw [upd_same, List.range_succ, List.map_append, List.map_append]
    rfl
/-- the words beside it -/
def Words (tb : TE) (σ : L2.St) (ws : List Str) : Prop := ∀ H (Q : VK), (∀ l H', Same H H' → H' l = some (.lst (ws.map V.str)) → Q (.ref l) H') → tb σ H Q
theorem words_rep {b : Str} {k : Int} {ws : List Str} (h0 : 0 ≤ k) (hk : k ≤ 100) (hb : ws = List.replicate k.toNat b) : Words (tOp rRep (tLst (tCons (tC (.str b)) tNil)) (tC (.int k))) σ ws := by
  intro H Q q
  refine ⟨by show 1 ≤ sizeLine; decide, fun l1 n1 => ⟨l1, k, _, rfl, rfl, upd_same, by omega, by omega, ?_, fun l2 n2 => ?_⟩⟩
  · show 1 * k.toNat ≤ sizeLine
    exact size100 (by omega)
  have s1 := same_new (o := .lst [V.str b]) n1
  have s2 := s1.trans (same_new (o := .lst (List.replicate k.toNat [V.str b]).flatten) n2)
  refine q l2 _ s2 ?_
  rw [upd_same, hb, List.map_replicate]
  congr 2
  clear n2 s2 hb h0 hk
  induction k.toNat with
  | zero => rfl
  | succ m ih => rw [List.replicate_succ, List.replicate_succ, List.flatten_cons, ih]; rfl
theorem words_lst {ta : TA} {ws : List Str} (h : FlA ta σ (ws.map V.str)) (hl : ws.length ≤ 100) : Words (tLst ta) σ ws := fun H Q q =>
  h H _ ⟨by rw [List.length_map]; exact size100 hl, fun p np => q _ _ (same_new np) upd_same⟩
theorem ne_rng {m : Int} {Q : Bool → Hp → Prop} (ws : List Str) (g : Nat → Str) (hT : Town t n H) (h0 : 0 ≤ m) (hm : m ≤ 100) (hws : (List.range m.toNat).map g = ws) (hs : ws.all PyData.strOk = true) (hb : Words tb σ ws) (hw : ∀ x, wipe ((wipe σ vs).set j (some x)) vs = wipe σ vs)
    (step : ∀ (i : Nat) H4, i < m.toNat → TSame t n H H4 → Town t n H4 → ∀ Q' : VK, (∀ H5, TSame t n H4 H5 → Town t n H5 → Q' (.str (g i)) H5) → te ((wipe σ vs).set j (some (.int ((i : Nat) : Int)))) H4 Q')
    (q : ∀ H2, TSame t n H H2 → Town t n H2 → Q false H2) : tTest (tOp (rNeD K) (tLc (iRng1 (tCons (tC (.int m)) tNil)) (gName j) tYes te vs) tb) σ H Q := by
  refine ⟨m, rfl, by omega, by omega, fun D hD => ?_⟩
  refine lc_words walk_range (by omega) hT hD (fun _ _ => trivial) (fun i H x H' _ y => ⟨y.1, y.2.trans (congrArg V.int (Int.zero_add _))⟩) g hw step (fun H2 s2 hT2 hD2 => ?_)
  refine hb H2 _ fun l H3 s3 hl => ?_
  rw [hws] at hD2
  exact ne_sameD (.lst (sql (s3 _ _ hD2)) dp_strs) (.lst (sql hl) dp_strs) (shaped_strs ws hs) ⟨false, rfl, q H3 (s2.trans (tsame_of s3)) (hT2.same s3)⟩
theorem y01 : ∀ (i : Nat) (H : Hp) (x : V) (H' : Hp), i < 2 → YAt [.int 0, .int 1] i H x H' → H' = H ∧ x = .int ((i : Nat) : Int)
  | 0, _, _, _, _, y => ⟨y.1, (Option.some.inj y.2).symm⟩
  | 1, _, _, _, _, y => ⟨y.1, (Option.some.inj y.2).symm⟩
theorem ne_01 {Q : Bool → Hp → Prop} (ws : List Str) (g : Nat → Str) (hT : Town t n H) (hws : (List.range 2).map g = ws) (hs : ws.all PyData.strOk = true) (hb : Words tb σ ws) (hw : ∀ x, wipe ((wipe σ vs).set j (some x)) vs = wipe σ vs)
    (step : ∀ (i : Nat) H4, i < 2 → TSame t n H H4 → Town t n H4 → ∀ Q' : VK, (∀ H5, TSame t n H4 H5 → Town t n H5 → Q' (.str (g i)) H5) → te ((wipe σ vs).set j (some (.int ((i : Nat) : Int)))) H4 Q')
    (q : ∀ H2, TSame t n H H2 → Town t n H2 → Q false H2) : tTest (tOp (rNeD K) (tLc (iTup K (tTup (tCons (tC (.int 0)) (tCons (tC (.int 1)) tNil)))) (gName j) tYes te vs) tb) σ H Q := by
  refine ⟨by show 2 ≤ sizeLine; decide, fun p np => ⟨p, rfl, ⟨_, sqt upd_same⟩, fun D hD => ?_⟩⟩
  have s1 := same_new (o := .tup [.int 0, .int 1]) np
  have hT1 := hT.same s1
  have hp := sqt (K := K) (upd_same (H := H) (a := p) (o := .tup [.int 0, .int 1]))
  refine lc_words (walk_tup (xs := [.int 0, .int 1])) (by decide) hT1 hD (fun H' s => hT1.t s hp) y01 g hw (fun i H4 hi s4 => step i H4 hi ((tsame_of s1).trans s4)) (fun H2 s2 hT2 hD2 => ?_)
  refine hb H2 _ fun l H3 s3 hl => ?_
  have hD2 : H2 D = some (.lst (((List.range 2).map g).map V.str)) := hD2
  rw [hws] at hD2
  exact ne_sameD (.lst (sql (s3 _ _ hD2)) dp_strs) (.lst (sql hl) dp_strs) (shaped_strs ws hs) ⟨false, rfl, q H3 ((tsame_of s1).trans (s2.trans (tsame_of s3))) (hT2.same s3)⟩
theorem eq_01 {Q : VK} (ws : List Str) (g : Nat → Str) (hT : Town t n H) (hws : (List.range 2).map g = ws) (hs : ws.all PyData.strOk = true) (hb : Words tb σ ws) (hw : ∀ x, wipe ((wipe σ vs).set j (some x)) vs = wipe σ vs)
    (step : ∀ (i : Nat) H4, i < 2 → TSame t n H H4 → Town t n H4 → ∀ Q' : VK, (∀ H5, TSame t n H4 H5 → Town t n H5 → Q' (.str (g i)) H5) → te ((wipe σ vs).set j (some (.int ((i : Nat) : Int)))) H4 Q')
    (q : ∀ H2, TSame t n H H2 → Town t n H2 → Q (.bl true) H2) : tOp (rEqD K) (tLc (iTup K (tTup (tCons (tC (.int 0)) (tCons (tC (.int 1)) tNil)))) (gName j) tYes te vs) tb σ H Q := by
  refine ⟨by show 2 ≤ sizeLine; decide, fun p np => ⟨p, rfl, ⟨_, sqt upd_same⟩, fun D hD => ?_⟩⟩
  have s1 := same_new (o := .tup [.int 0, .int 1]) np
  have hT1 := hT.same s1
  have hp := sqt (K := K) (upd_same (H := H) (a := p) (o := .tup [.int 0, .int 1]))
  refine lc_words (walk_tup (xs := [.int 0, .int 1])) (by decide) hT1 hD (fun H' s => hT1.t s hp) y01 g hw (fun i H4 hi s4 => step i H4 hi ((tsame_of s1).trans s4)) (fun H2 s2 hT2 hD2 => ?_)
  refine hb H2 _ fun l H3 s3 hl => ?_
  have hD2 : H2 D = some (.lst (((List.range 2).map g).map V.str)) := hD2
  rw [hws] at hD2
  exact eq_same (.lst (sql (s3 _ _ hD2)) dp_strs) (.lst (sql hl) dp_strs) (shaped_strs ws hs) (q H3 ((tsame_of s1).trans (s2.trans (tsame_of s3))) (hT2.same s3))
end
end
end Oa
namespace Oa
open PySem PySem.Spec PyProof.Rows L2 Oat
/-! ### words, of the things of a written list -/
section
variable {K : PySem.W.Frag} {α : Type} {R : Hp → V → α → Prop} {te tb : TE} {ta : TA} {vs : List Nat} {σ : L2.St} {j : Nat} {H : Hp}
def MkS (R : Hp → V → α → Prop) (t : TE) (σ : L2.St) (o : α) : Prop := ∀ H (Q : VK), (∀ v H', Same H H' → R H' v o → Q v H') → t σ H Q
def MkSA (R : Hp → V → α → Prop) (t : TA) (σ : L2.St) (os : List α) : Prop := ∀ H (Q : List V → Hp → Prop), (∀ vs H', Same H H' → Paired (R H') vs os → Q vs H') → t σ H Q
def MonoS (R : Hp → V → α → Prop) : Prop := ∀ {H H' : Hp} {v : V} {o : α}, Same H H' → R H v o → R H' v o
theorem ms_nil : MkSA R tNil σ [] := fun H Q q => q [] H (Same.refl _) .nil
theorem ms_cons {t : TE} {tr : TA} {o : α} {os : List α} (m : MonoS R) (h : MkS R t σ o) (hr : MkSA R tr σ os) : MkSA R (tCons t tr) σ (o :: os) := fun H Q q =>
  h H _ fun v H1 s1 hv => hr H1 _ fun vs H2 s2 hvs => q _ _ (s1.trans s2) (.cons (m s2 hv) hvs)
theorem monoS_e : MonoS EqR := fun _ h => h
theorem ms_c {v : V} : MkS EqR (tC v) σ v := fun H Q q => q _ H (Same.refl _) rfl
theorem ms_op {t : TE} {v : V} (h : ∀ H (Q : VK), Q v H → t σ H Q) : MkS EqR t σ v := fun H Q q => h H _ (q _ H (Same.refl _) rfl)
theorem monoS_t : MonoS (ThS K) := fun s h => h.same s
theorem ms_of {t : TE} {o : Option (List V)} (h : Mk1 K t σ o) : MkS (ThS K) t σ o := h
theorem lc_wordsS {Q : VK} (m : MonoS R) (os : List α) (hl : os.length ≤ 100) (mk : MkSA R ta σ os) (g : α → Str) (hw : ∀ x, wipe ((wipe σ vs).set j (some x)) vs = wipe σ vs)
    (step : ∀ v o H4, o ∈ os → Same H H4 → R H4 v o → ∀ Q' : VK, (∀ H5, Same H4 H5 → Q' (.str (g o)) H5) → te ((wipe σ vs).set j (some v)) H4 Q')
    (q : ∀ D H2, Same H H2 → H2 D = some (.lst ((os.map g).map V.str)) → Q (.ref D) H2) : tLc (iList K (tLst ta)) (gName j) tYes te vs σ H Q := by
  refine mk H _ fun xs H1 s1 hp => ⟨by rw [Paired.length hp]; exact size100 hl, fun l nl => ?_⟩
  have hlen := Paired.length hp
  have s2 := same_new (o := .lst xs) nl
  refine ⟨l, rfl, ⟨xs, sql upd_same⟩, fun D hD => ?_⟩
  refine lc_vals (walk_list (xs := xs)) hD (by omega) (fun H' s => same_l s (sql upd_same)) (fun i => V.str ((os.map g).getD i "")) (fun i' x H2 H3 hi s3 y => ?_) (fun H2 s3 hy => ?_)
  · obtain ⟨rfl, hxi⟩ := y
    obtain ⟨o, ho, ht⟩ := paired_at2 hp hxi
    refine ⟨Same.refl _, hw x, fun H4 s4 Q' q' => ?_⟩
    have : (os.map g).getD i' "" = g o := by rw [List.getD_eq_getElem?_getD, List.getElem?_map, ho]; rfl
    rw [this] at q'
    exact step x o H4 (List.mem_of_getElem? ho) (s1.trans (s2.trans s4)) (m (s2.trans s4) ht) Q' q'
  · refine q D H2 (s1.trans (s2.trans s3)) ?_
    rw [hy, hlen, ← List.length_map (f := g)]
    have := congrArg (List.map V.str) (Oat.range_getD (os.map g) "")
    rw [List.map_map] at this
    rw [← this]
    rfl
theorem ne_wordsS {Q : Bool → Hp → Prop} (m : MonoS R) (os : List α) (ws : List Str) (hl : os.length ≤ 100) (mk : MkSA R ta σ os) (g : α → Str) (hg : os.map g = ws) (hs : ws.all PyData.strOk = true) (hb : Words tb σ ws) (hw : ∀ x, wipe ((wipe σ vs).set j (some x)) vs = wipe σ vs)
    (step : ∀ v o H4, o ∈ os → Same H H4 → R H4 v o → ∀ Q' : VK, (∀ H5, Same H4 H5 → Q' (.str (g o)) H5) → te ((wipe σ vs).set j (some v)) H4 Q')
    (q : ∀ H2, Same H H2 → Q false H2) : tTest (tOp (rNeD K) (tLc (iList K (tLst ta)) (gName j) tYes te vs) tb) σ H Q := by
  refine lc_wordsS (Q := fun x H1 => tb σ H1 fun y H2 => rNeD K x y H2 fun x H' => ∃ k, x = .bl k ∧ Q k H') (R := R) @m os hl mk g hw step fun D H2 s2 hD => ?_
  rw [hg] at hD
  refine hb H2 _ fun l H3 s3 hl => ?_
  exact ne_sameD (.lst (sql (s3 _ _ hD)) dp_strs) (.lst (sql hl) dp_strs) (shaped_strs ws hs) ⟨false, rfl, q H3 (s2.trans s3)⟩
theorem eq_wordsS {Q : VK} (m : MonoS R) (os : List α) (ws : List Str) (hl : os.length ≤ 100) (mk : MkSA R ta σ os) (g : α → Str) (hg : os.map g = ws) (hs : ws.all PyData.strOk = true) (hb : Words tb σ ws) (hw : ∀ x, wipe ((wipe σ vs).set j (some x)) vs = wipe σ vs)
    (step : ∀ v o H4, o ∈ os → Same H H4 → R H4 v o → ∀ Q' : VK, (∀ H5, Same H4 H5 → Q' (.str (g o)) H5) → te ((wipe σ vs).set j (some v)) H4 Q')
    (q : ∀ H2, Same H H2 → Q (.bl true) H2) : tOp (rEqD K) (tLc (iList K (tLst ta)) (gName j) tYes te vs) tb σ H Q := by
  refine lc_wordsS (Q := fun x H1 => tb σ H1 fun y H2 => rEqD K x y H2 Q) (R := R) @m os hl mk g hw step fun D H2 s2 hD => ?_
  rw [hg] at hD
  refine hb H2 _ fun l H3 s3 hl => ?_
  exact eq_same (.lst (sql (s3 _ _ hD)) dp_strs) (.lst (sql hl) dp_strs) (shaped_strs ws hs) (q H3 (s2.trans s3))
/-- [f(..), ..] != words -/
theorem ne_lstS {Q : Bool → Hp → Prop} (ws : List Str) (hl : ws.length ≤ 100) (hs : ws.all PyData.strOk = true) (hb : Words tb σ ws) (mk : ∀ Q' : List V → Hp → Prop, (∀ H', Same H H' → Q' (ws.map V.str) H') → ta σ H Q') (q : ∀ H2, Same H H2 → Q false H2) : tTest (tOp (rNeD K) (tLst ta) tb) σ H Q := by
  refine mk _ fun H1 s1 => ⟨by rw [List.length_map]; exact size100 hl, fun l nl => ?_⟩
  have s2 := same_new (o := .lst (ws.map V.str)) nl
  refine hb _ _ fun l2 H3 s3 hl2 => ?_
  exact ne_sameD (.lst (sql (s3 _ _ upd_same)) dp_strs) (.lst (sql hl2) dp_strs) (shaped_strs ws hs) ⟨false, rfl, q H3 (s1.trans (s2.trans s3))⟩
/-- for bad in [..]: .. -/
theorem seq_kindsS {tb tr : TS} {D : Ends} {y : Option V} (m : MonoS R) (os : List α) (σf : Option V → L2.St) (hσ : σ = σf y) (hset : ∀ z v, (σf z).set j (some v) = σf (some v)) (mk : MkSA R ta σ os) (hl : os.length ≤ 100)
    (step : ∀ v o H' D', o ∈ os → Same H H' → R H' v o → (∀ H'', Same H' H'' → Ends.nx D' (σf (some v)) H'') → tb D' (σf (some v)) H')
    (q : ∀ z H', Same H H' → tr D (σf z) H') : tSeq (tFor (iList K (tLst ta)) (gName j) tb) tr D σ H := by
  unfold tSeq
  refine mk H _ fun xs H1 s1 hp => ⟨by rw [Paired.length hp]; exact size100 hl, fun l nl => ?_⟩
  have hlen := Paired.length hp
  have s2 := same_new (o := .lst xs) nl
  refine ⟨l, rfl, ⟨xs, sql upd_same⟩, ?_⟩
  refine for_it (walk_list (xs := xs)) (fun i σ' H' => ∃ z, σ' = σf z ∧ Same (upd H1 l (.lst xs)) H') ⟨y, hσ, Same.refl _⟩ (fun i σ' H' _ p => ?_) (fun i x σ' H' H'' hi p y => ?_) (fun σ' H' p => ?_)
  · obtain ⟨z, _, s⟩ := p
    exact sql (s _ _ upd_same)
  · obtain ⟨z, rfl, s⟩ := p
    obtain ⟨rfl, hx⟩ := y
    obtain ⟨o, ho, hr⟩ := paired_at2 hp hx
    show tb _ ((σf z).set j (some x)) H''
    rw [hset z x]
    exact step x o H'' _ (List.mem_of_getElem? ho) (s1.trans (s2.trans s)) (m (s2.trans s) hr) fun H3 s4 => ⟨_, rfl, s.trans s4⟩
  · obtain ⟨z, rfl, s⟩ := p
    exact q z H' (s1.trans (s2.trans s))
end
end Oa
namespace Oat
open PySem TL
/-! ### texts, as lists of signs -/
def dig (c : Nat) : Bool := decide (48 ≤ c ∧ c ≤ 57)
def numF (l : List Nat) : Option Nat := if (decide (1 ≤ l.length ∧ l.length ≤ 5) && (l.all dig && decide (numL (NumText.digitsVal l) = l))) = true then some (NumText.digitsVal l) else none
theorem numF_num {n : Nat} (h : n < 100000) : numF (numL n) = some n := by
  unfold numF
  have h1 : (numL n).length ≤ 5 := numL_len (by decide) (by omega)
  have h2 : 1 ≤ (numL n).length := by
    cases e : numL n with
    | nil => exact absurd e (numL_ne n)
    | cons a b => exact Nat.succ_le_succ (Nat.zero_le _)
  have h3 : (numL n).all dig = true := List.all_eq_true.mpr fun c hc => decide_eq_true (numL_digits n c hc)
  rw [numL_val, decide_eq_true ⟨h2, h1⟩, h3, decide_eq_true rfl]
  rfl
theorem numF_some {l : List Nat} {n : Nat} (h : numF l = some n) : l = numL n := by
  unfold numF at h
  split at h
  · rename_i c
    simp only [Bool.and_eq_true, decide_eq_true_eq] at c
    rw [← Option.some.inj h]
    exact c.2.2.symm
  · cases h
theorem digits_lt : ∀ (l : List Nat) (a : Nat), NumText.AllDigits l → l.foldl (fun acc c => acc * 10 + (c - 48)) a < (a + 1) * 10 ^ l.length
  | [], a, _ => by simp
  | c :: r, a, h => by
    have hc := h.head
    have := digits_lt r (a * 10 + (c - 48)) h.tail
    rw [List.foldl_cons, List.length_cons, Nat.pow_succ]
    refine Nat.lt_of_lt_of_le this ?_
    have e : (a + 1) * (10 ^ r.length * 10) = ((a + 1) * 10) * 10 ^ r.length := by rw [Nat.mul_comm (10 ^ r.length) 10, Nat.mul_assoc]
    rw [e]
    exact Nat.mul_le_mul_right _ (by omega)
theorem numF_lt {l : List Nat} {n : Nat} (h : numF l = some n) : n < 100000 := by
  unfold numF at h
  split at h
  · rename_i c
    simp only [Bool.and_eq_true, decide_eq_true_eq] at c
    have hd : NumText.AllDigits l := fun x hx => of_decide_eq_true (List.all_eq_true.mp c.2.1 x hx)
    have := digits_lt l 0 hd
    rw [← Option.some.inj h]
    refine Nat.lt_of_lt_of_le this ?_
    rw [Nat.zero_add, Nat.one_mul]
    exact Nat.pow_le_pow_right (by decide) c.1.2
  · cases h
def cellF (c : Nat) (l : List Nat) : Option (Option Nat) := if l = [c] then some none else match numF l with
  | some n => some (some n)
  | none => none
def cellL (c : Nat) (o : Option Nat) : List Nat := match o with
  | none => [c]
  | some n => numL n
theorem cellF_cell {c : Nat} {o : Option Nat} (hc : c < 48 ∨ 57 < c) (h : ∀ n, o = some n → n < 100000) : cellF c (cellL c o) = some o := by
  cases o with
  | none => exact if_pos rfl
  | some n =>
    show (if numL n = [c] then some none else _) = _
    rw [if_neg (fun e => numL_free (n := n) hc (by rw [e]; exact List.mem_singleton.mpr rfl))]
    show (match numF (numL n) with | some n => some (some n) | none => none) = _
    rw [numF_num (h n rfl)]
theorem cellF_some {c : Nat} {l : List Nat} {o : Option Nat} (h : cellF c l = some o) : l = cellL c o := by
  unfold cellF at h
  split at h
  · rename_i e
    rw [← Option.some.inj h]
    exact e
  · cases hn : numF l with
    | none => rw [hn] at h; cases h
    | some n =>
      rw [hn] at h
      rw [← Option.some.inj h]
      exact numF_some hn
theorem cellF_lt {c : Nat} {l : List Nat} {n : Nat} (h : cellF c l = some (some n)) : n < 100000 := by
  unfold cellF at h
  split at h
  · cases h
  · cases hn : numF l with
    | none => rw [hn] at h; cases h
    | some m =>
      rw [hn] at h
      rw [← Option.some.inj (Option.some.inj h)]
      exact numF_lt hn
theorem cellL_free {c s : Nat} {o : Option Nat} (h : s < 48 ∨ 57 < s) (hc : s ≠ c) : s ∉ cellL c o := by
  cases o with
  | none => exact fun z => hc (List.mem_singleton.mp z)
  | some n => exact numL_free h
/-! ### split and join, one sign between -/
theorem pre1 (s c : Nat) (r : List Nat) : pre [s] (c :: r) = decide (c = s) := by
  unfold pre
  show ([c] == [s]) = _
  by_cases h : c = s
  · subst h
    rw [decide_eq_true rfl]
    exact beq_self_eq_true _
  · rw [decide_eq_false h]
    exact beq_eq_false_iff_ne.mpr fun e => h (List.cons.inj e).1
theorem spl_ne (s : Nat) : ∀ (l acc : List Nat), spl [s] 0 acc l ≠ []
  | [], acc => by rw [spl_nil]; simp
  | c :: r, acc => by
    by_cases h : c = s
    · rw [spl_hit (by rw [pre1]; exact decide_eq_true h)]
      simp
    · rw [spl_miss (by rw [pre1]; exact decide_eq_false h)]
      exact spl_ne s r _
theorem join_spl (s : Nat) : ∀ (l acc : List Nat), joinL [s] (spl [s] 0 acc l) = acc ++ l
  | [], acc => by rw [spl_nil, List.append_nil]; rfl
  | c :: r, acc => by
    by_cases h : c = s
    · rw [spl_hit (by rw [pre1]; exact decide_eq_true h)]
      show joinL [s] (acc :: spl [s] 0 [] r) = _
      cases e : spl [s] 0 [] r with
      | nil => exact absurd e (spl_ne s r [])
      | cons p q =>
        show acc ++ ([s] ++ joinL [s] (p :: q)) = _
        rw [← e, join_spl s r [], h]
        rfl
    · rw [spl_miss (by rw [pre1]; exact decide_eq_false h), join_spl s r, List.append_assoc]
      rfl
theorem spl_len (s : Nat) : ∀ (l acc : List Nat), (spl [s] 0 acc l).length ≤ l.length + 1
  | [], acc => by rw [spl_nil]; exact Nat.le_refl _
  | c :: r, acc => by
    by_cases h : c = s
    · rw [spl_hit (by rw [pre1]; exact decide_eq_true h)]
      exact Nat.succ_le_succ (spl_len s r [])
    · rw [spl_miss (by rw [pre1]; exact decide_eq_false h)]
      exact Nat.le_succ_of_le (spl_len s r _)
theorem spl_part_len (s : Nat) : ∀ (l acc : List Nat), ∀ p ∈ spl [s] 0 acc l, p.length ≤ acc.length + l.length
  | [], acc, p, hp => by
    rw [spl_nil] at hp
    rw [List.mem_singleton.mp hp]
    exact Nat.le_refl _
  | c :: r, acc, p, hp => by
    by_cases h : c = s
    · rw [spl_hit (by rw [pre1]; exact decide_eq_true h)] at hp
      rcases List.mem_cons.mp hp with rfl | hp
      · exact Nat.le_add_right _ _
      · have := spl_part_len s r [] p hp
        simp only [List.length_nil, List.length_cons] at this ⊢
        omega
    · rw [spl_miss (by rw [pre1]; exact decide_eq_false h)] at hp
      have := spl_part_len s r _ p hp
      simp only [List.length_append, List.length_cons, List.length_nil] at this ⊢
      omega
/-! ### all, or none -/
inductive F2 {α β : Type} (R : α → β → Prop) : List α → List β → Prop
  | nil : F2 R [] []
  | cons {x : α} {y : β} {xs : List α} {ys : List β} : R x y → F2 R xs ys → F2 R (x :: xs) (y :: ys)
def mapO {α β : Type} (f : α → Option β) : List α → Option (List β)
  | [] => some []
  | x :: xs => match f x with
    | none => none
    | some y => match mapO f xs with
      | none => none
      | some ys => some (y :: ys)
theorem mapO_all {α β : Type} {f : α → Option β} : ∀ {xs : List α} {ys : List β}, F2 (fun x y => f x = some y) xs ys → mapO f xs = some ys
  | _, _, .nil => rfl
  | _, _, .cons h r => by
    unfold mapO
    rw [h]
    dsimp only
    rw [mapO_all r]
theorem mapO_some {α β : Type} {f : α → Option β} : ∀ {xs : List α} {ys : List β}, mapO f xs = some ys → F2 (fun x y => f x = some y) xs ys
  | [], ys, h => by
    have := Option.some.inj h
    subst this
    exact .nil
  | x :: xs, ys, h => by
    unfold mapO at h
    cases e : f x with
    | none => rw [e] at h; cases h
    | some y =>
      rw [e] at h
      dsimp only at h
      cases e2 : mapO f xs with
      | none => rw [e2] at h; cases h
      | some zs =>
        rw [e2] at h
        have := Option.some.inj h
        subst this
        exact .cons e (mapO_some e2)
theorem mapO_none {α β : Type} {f : α → Option β} : ∀ {xs : List α}, mapO f xs = none → ∃ (i : Nat) (x : α), xs[i]? = some x ∧ f x = none ∧ ∀ j, j < i → ∃ y z, xs[j]? = some y ∧ f y = some z
  | [], h => by cases h
  | x :: xs, h => by
    unfold mapO at h
    cases e : f x with
    | none => exact ⟨0, x, rfl, e, fun j hj => absurd hj (Nat.not_lt_zero _)⟩
    | some y =>
      rw [e] at h
      dsimp only at h
      cases e2 : mapO f xs with
      | some zs => rw [e2] at h; cases h
      | none =>
        obtain ⟨i, z, h1, h2, h3⟩ := mapO_none e2
        refine ⟨i + 1, z, h1, h2, fun j hj => ?_⟩
        cases j with
        | zero => exact ⟨x, y, rfl, e⟩
        | succ j => exact h3 j (by omega)
/-! ### a land with wants -/
def rowL (a w : Option Nat) : List Nat := cellL 45 a ++ (58 :: cellL 46 w)
def landL (A W : List (Option Nat)) : List Nat := joinL [10] (List.zipWith rowL A W)
def rowsF (l : List Nat) : List (List (List Nat)) := (spl [10] 0 [] l).map (spl [58] 0 [])
def cellsF (l : List Nat) : Option (List (Option Nat) × List (Option Nat)) :=
  if (decide ((rowsF l).length ≤ 30) && (rowsF l).all fun r => decide (r.length = 2)) = true then
    match mapO (fun r => cellF 45 (List.getD r 0 [])) (rowsF l) with
    | none => none
    | some A => match mapO (fun r => cellF 46 (List.getD r 1 [])) (rowsF l) with
      | none => none
      | some W => some (A, W)
  else none
theorem row_spl (a w : Option Nat) : spl [58] 0 [] (rowL a w) = [cellL 45 a, cellL 46 w] := by
  have h1 : (58 : Nat) ∉ cellL 45 a := cellL_free (by omega) (by decide)
  have h2 : (58 : Nat) ∉ cellL 46 w := cellL_free (by omega) (by decide)
  have e := spl_part1 (s := 58) (S := []) (rest := cellL 46 w) (acc := []) h1
  have e2 := spl_last1 (s := 58) (S := []) (acc := []) h2
  unfold rowL
  show spl [58] 0 [] (cellL 45 a ++ ([58] ++ cellL 46 w)) = _
  rw [e, e2]
  rfl
theorem row_free (a w : Option Nat) : (10 : Nat) ∉ rowL a w := by
  unfold rowL
  intro h
  rcases List.mem_append.mp h with h | h
  · exact cellL_free (by omega) (by decide) h
  · rcases List.mem_cons.mp h with h | h
    · exact absurd h (by decide)
    · exact cellL_free (by omega) (by decide) h
theorem rows_land {A W : List (Option Nat)} (h : A ≠ []) (hl : A.length = W.length) : rowsF (landL A W) = (List.zipWith rowL A W).map (spl [58] 0 []) := by
  unfold rowsF landL
  rw [spl_join]
  · cases A with
    | nil => exact absurd rfl h
    | cons a A =>
      cases W with
      | nil => simp at hl
      | cons w W => simp
  · intro p hp
    obtain ⟨i, hi, rfl⟩ := List.mem_iff_getElem.mp hp
    rw [List.getElem_zipWith]
    exact row_free _ _
theorem cells_land {A W : List (Option Nat)} (h : A ≠ []) (hl : A.length = W.length) (h30 : A.length ≤ 30) (ha : ∀ n, some n ∈ A → n < 100000) (hw : ∀ n, some n ∈ W → n < 100000) : cellsF (landL A W) = some (A, W) := by
  have key : ∀ {A W : List (Option Nat)}, A.length = W.length → (∀ n, some n ∈ A → n < 100000) → (∀ n, some n ∈ W → n < 100000) →
      F2 (fun r a => cellF 45 (List.getD r 0 []) = some a) ((List.zipWith rowL A W).map (spl [58] 0 [])) A ∧ F2 (fun r w => cellF 46 (List.getD r 1 []) = some w) ((List.zipWith rowL A W).map (spl [58] 0 [])) W ∧
      (((List.zipWith rowL A W).map (spl [58] 0 [])).all fun r => decide (r.length = 2)) = true ∧ ((List.zipWith rowL A W).map (spl [58] 0 [])).length = A.length := by
    intro A
    induction A with
    | nil =>
      intro W hl _ _
      cases W with
      | nil => exact ⟨.nil, .nil, rfl, rfl⟩
      | cons _ _ => cases hl
    | cons a A ih =>
      intro W hl ha hw
      cases W with
      | nil => cases hl
      | cons w W =>
        obtain ⟨i1, i2, i3, i4⟩ := ih (W := W) (by simpa using hl) (fun n hn => ha n (List.mem_cons_of_mem _ hn)) (fun n hn => hw n (List.mem_cons_of_mem _ hn))
        refine ⟨.cons ?_ i1, .cons ?_ i2, ?_, ?_⟩
        · rw [row_spl]
          exact cellF_cell (by omega) fun n hn => ha n (by rw [hn]; exact List.mem_cons_self)
        · rw [row_spl]
          exact cellF_cell (by omega) fun n hn => hw n (by rw [hn]; exact List.mem_cons_self)
        · show ((decide ((spl [58] 0 [] (rowL a w)).length = 2)) && _) = true
          rw [row_spl]
          exact i3
        · simp only [List.zipWith_cons_cons, List.map_cons, List.length_cons]
          rw [i4]
  obtain ⟨k1, k2, k3, k4⟩ := key hl ha hw
  unfold cellsF
  rw [rows_land h hl, k3, k4, decide_eq_true h30, mapO_all k1, mapO_all k2]
  rfl
theorem cells_back {l : List Nat} {A W : List (Option Nat)} (h : cellsF l = some (A, W)) : l = landL A W ∧ A.length = W.length ∧ A ≠ [] ∧ A.length ≤ 30 ∧ (∀ n, some n ∈ A → n < 100000) ∧ ∀ n, some n ∈ W → n < 100000 := by
  unfold cellsF at h
  split at h
  · rename_i c
    rw [Bool.and_eq_true, decide_eq_true_eq] at c
    obtain ⟨c1, c2⟩ := c
    cases e1 : mapO (fun r => cellF 45 (List.getD r 0 [])) (rowsF l) with
    | none => rw [e1] at h; cases h
    | some A' =>
      rw [e1] at h
      dsimp only at h
      cases e2 : mapO (fun r => cellF 46 (List.getD r 1 [])) (rowsF l) with
      | none => rw [e2] at h; cases h
      | some W' =>
        rw [e2] at h
        have h3 := Option.some.inj h
        obtain ⟨rfl, rfl⟩ := Prod.mk.inj h3
        have f1 := mapO_some e1
        have f2 := mapO_some e2
        clear h e1 e2 h3
        have hne : spl [10] 0 [] l ≠ [] := spl_ne 10 l []
        have hj := join_spl 10 l []
        rw [List.nil_append] at hj
        unfold rowsF at c1 c2 f1 f2
        rw [List.length_map] at c1
        have key : ∀ {ps : List (List Nat)} {A W : List (Option Nat)}, ((ps.map (spl [58] 0 [])).all fun r => decide (r.length = 2)) = true → F2 (fun r a => cellF 45 (List.getD r 0 []) = some a) (ps.map (spl [58] 0 [])) A → F2 (fun r w => cellF 46 (List.getD r 1 []) = some w) (ps.map (spl [58] 0 [])) W →
            ps = List.zipWith rowL A W ∧ A.length = ps.length ∧ W.length = ps.length ∧ (∀ n, some n ∈ A → n < 100000) ∧ ∀ n, some n ∈ W → n < 100000 := by
          intro ps
          induction ps with
          | nil =>
            intro A W _ f1 f2
            cases f1
            cases f2
            exact ⟨rfl, rfl, rfl, (fun n hn => by cases hn), fun n hn => by cases hn⟩
          | cons p ps ih =>
            intro A W c f1 f2
            rw [List.map_cons] at f1 f2 c
            cases f1 with
            | @cons _ a _ A g1 f1 =>
              cases f2 with
              | @cons _ w _ W g2 f2 =>
                rw [List.all_cons, Bool.and_eq_true, decide_eq_true_eq] at c
                obtain ⟨i1, i2, i3, i4, i5⟩ := ih c.2 f1 f2
                have hp := join_spl 58 p []
                rw [List.nil_append] at hp
                have hr : ∃ x y, spl [58] 0 [] p = [x, y] := by
                  cases e : spl [58] 0 [] p with
                  | nil => rw [e] at c; simp at c
                  | cons x t =>
                    cases t with
                    | nil => rw [e] at c; simp at c
                    | cons y u =>
                      cases u with
                      | nil => exact ⟨x, y, rfl⟩
                      | cons _ _ => rw [e] at c; simp at c
                obtain ⟨x, y, e⟩ := hr
                rw [e] at g1 g2 hp
                have ex : x = cellL 45 a := cellF_some g1
                have ey : y = cellL 46 w := cellF_some g2
                refine ⟨?_, congrArg Nat.succ i2, congrArg Nat.succ i3, fun n hn => ?_, fun n hn => ?_⟩
                · rw [List.zipWith_cons_cons, ← i1, ← hp, ex, ey]
                  rfl
                · rcases List.mem_cons.mp hn with z | z
                  · rw [← z] at g1
                    exact cellF_lt g1
                  · exact i4 n z
                · rcases List.mem_cons.mp hn with z | z
                  · rw [← z] at g2
                    exact cellF_lt g2
                  · exact i5 n z
        obtain ⟨k1, k2, k3, k4, k5⟩ := key c2 f1 f2
        refine ⟨?_, k2.trans k3.symm, fun z => ?_, by rw [k2]; exact c1, k4, k5⟩
        · unfold landL
          rw [← k1]
          exact hj.symm
        · rw [z] at k2
          exact hne (List.length_eq_zero_iff.mp k2.symm)
  · cases h
/-! ### plans -/
def kindC (i : Nat) : Nat := if i = 0 then 62 else if i = 1 then 43 else 45
def kindI (s : Nat) : Option Nat := if s = 62 then some 0 else if s = 43 then some 1 else if s = 45 then some 2 else none
def wordF (l : List Nat) : Option (Nat × Nat × Nat) := match l with
  | c :: s :: r => (match kindI s with
    | none => none
    | some i => if 48 ≤ c ∧ c ≤ 53 then (match numF r with
      | none => none
      | some n => some (i, c - 48, n)) else none)
  | _ => none
def wordL (d : Nat × Nat × Nat) : List Nat := numL d.2.1 ++ (kindC d.1 :: numL d.2.2)
def planF (l : List Nat) : Option (List (Nat × Nat × Nat)) := if l = [] then some [] else mapO wordF (spl [32] 0 [] l)
def planL (ds : List (Nat × Nat × Nat)) : List Nat := joinL [32] (ds.map wordL)
def DOk (d : Nat × Nat × Nat) : Prop := d.1 < 3 ∧ d.2.1 < 6 ∧ d.2.2 < 100000
theorem kindI_C {i : Nat} (h : i < 3) : kindI (kindC i) = some i := by
  match i, h with
  | 0, _ => rfl
  | 1, _ => rfl
  | 2, _ => rfl
theorem kindC_I {s i : Nat} (h : kindI s = some i) : s = kindC i ∧ i < 3 := by
  unfold kindI at h
  split at h
  · rename_i e; cases h; exact ⟨e, by decide⟩
  · split at h
    · rename_i e; cases h; exact ⟨e, by decide⟩
    · split at h
      · rename_i e; cases h; exact ⟨e, by decide⟩
      · cases h
theorem wordF_word {d : Nat × Nat × Nat} (h : DOk d) : wordF (wordL d) = some d := by
  obtain ⟨i, c, n⟩ := d
  obtain ⟨h1, h2, h3⟩ := h
  have h1 : i < 3 := h1
  have h2 : c < 6 := h2
  have h3 : n < 100000 := h3
  show wordF (numL c ++ (kindC i :: numL n)) = _
  rw [numL_lt (by omega)]
  show (match kindI (kindC i) with | none => none | some i => if 48 ≤ 48 + c ∧ 48 + c ≤ 53 then (match numF (numL n) with | none => none | some n => some (i, 48 + c - 48, n)) else none) = _
  rw [kindI_C h1]
  dsimp only
  rw [if_pos (by omega), numF_num h3]
  dsimp only
  rw [show 48 + c - 48 = c by omega]
theorem wordF_back {l : List Nat} {d : Nat × Nat × Nat} (h : wordF l = some d) : l = wordL d ∧ DOk d := by
  match l, h with
  | c :: s :: r, h =>
    have h : (match kindI s with | none => none | some i => if 48 ≤ c ∧ c ≤ 53 then (match numF r with | none => none | some n => some (i, c - 48, n)) else none) = some d := h
    cases e : kindI s with
    | none => rw [e] at h; cases h
    | some i =>
      rw [e] at h
      dsimp only at h
      split at h
      · rename_i hc
        cases e2 : numF r with
        | none => rw [e2] at h; cases h
        | some n =>
          rw [e2] at h
          have := Option.some.inj h
          subst this
          obtain ⟨e3, e4⟩ := kindC_I e
          refine ⟨?_, e4, by show c - 48 < 6; omega, numF_lt e2⟩
          show _ = numL (c - 48) ++ (kindC i :: numL n)
          rw [numL_lt (by omega), ← e3, ← numF_some e2, show 48 + (c - 48) = c by omega]
          rfl
      · cases h
theorem word_free {d : Nat × Nat × Nat} (h : DOk d) : (32 : Nat) ∉ wordL d := by
  unfold wordL
  intro z
  rcases List.mem_append.mp z with z | z
  · exact numL_free (by omega) z
  · rcases List.mem_cons.mp z with z | z
    · unfold kindC at z
      split at z
      · omega
      · split at z
        · omega
        · omega
    · exact numL_free (by omega) z
theorem word_ne (d : Nat × Nat × Nat) : wordL d ≠ [] := by
  unfold wordL
  cases e : numL d.2.1 with
  | nil => exact absurd e (numL_ne _)
  | cons _ _ => simp
theorem plan_ne {ds : List (Nat × Nat × Nat)} (h : ds ≠ []) : planL ds ≠ [] := by
  match ds, h with
  | [d], _ => exact word_ne d
  | d :: e :: r, _ =>
    show wordL d ++ _ ≠ []
    intro z
    exact word_ne d (List.append_eq_nil_iff.mp z).1
theorem planF_plan {ds : List (Nat × Nat × Nat)} (h : ∀ d ∈ ds, DOk d) : planF (planL ds) = some ds := by
  cases ds with
  | nil => exact if_pos rfl
  | cons d ds =>
    unfold planF
    rw [if_neg (plan_ne (by simp))]
    unfold planL
    rw [spl_join (by simp) (fun p hp => by
      obtain ⟨d', hd', rfl⟩ := List.mem_map.mp hp
      exact word_free (h d' hd'))]
    have key : ∀ es : List (Nat × Nat × Nat), (∀ d ∈ es, DOk d) → F2 (fun x y => wordF x = some y) (es.map wordL) es := by
      intro es
      induction es with
      | nil => exact fun _ => .nil
      | cons e es ih => exact fun h => .cons (wordF_word (h e List.mem_cons_self)) (ih fun d hd => h d (List.mem_cons_of_mem _ hd))
    exact mapO_all (key _ h)
theorem planF_back {l : List Nat} {ds : List (Nat × Nat × Nat)} (h : planF l = some ds) : l = planL ds ∧ ∀ d ∈ ds, DOk d := by
  unfold planF at h
  split at h
  · rename_i e
    have := Option.some.inj h
    subst this
    exact ⟨e, fun d hd => by cases hd⟩
  · have f := mapO_some h
    have hj := join_spl 32 l []
    rw [List.nil_append] at hj
    have key : ∀ {ps : List (List Nat)} {ds : List (Nat × Nat × Nat)}, F2 (fun x y => wordF x = some y) ps ds → ps = ds.map wordL ∧ ∀ d ∈ ds, DOk d := by
      intro ps ds f
      induction f with
      | nil => exact ⟨rfl, fun d hd => by cases hd⟩
      | cons h r ih =>
        obtain ⟨e1, e2⟩ := wordF_back h
        refine ⟨by rw [List.map_cons, ← e1, ← ih.1], fun d hd => ?_⟩
        rcases List.mem_cons.mp hd with rfl | hd
        · exact e2
        · exact ih.2 d hd
    obtain ⟨k1, k2⟩ := key f
    refine ⟨?_, k2⟩
    unfold planL
    rw [← k1]
    exact hj.symm
end Oat
namespace Oa
open PySem PySem.Spec PyProof.Rows L2 Oat TL
/-! ### texts by their signs -/
def mkS (l : List Nat) : Str := ⟨l.toArray⟩
theorem tl_mkS (l : List Nat) : tl (mkS l) = l := rfl
theorem mkS_tl (x : Str) : mkS (tl x) = x := mk_tl x
theorem mkS_app (a b : List Nat) : mkS a ++ mkS b = mkS (a ++ b) := ext_tl (by rw [tl_append, tl_mkS, tl_mkS, tl_mkS])
theorem mkS_len (l : List Nat) : (mkS l).length = l.length := by rw [len_tl, tl_mkS]
theorem mkS_inj {a b : List Nat} (h : mkS a = mkS b) : a = b := by
  have := congrArg tl h
  rw [tl_mkS, tl_mkS] at this
  exact this
theorem str_num (n : Nat) : (Str.ofString (toString ((n : Nat) : Int))) = mkS (numL n) := ext_tl (by rw [tl_num, tl_mkS])
theorem join_mkS (c : Nat) (ps : List (List Nat)) : Txt.join (mkS [c]) (ps.map mkS) = mkS (joinL [c] ps) := by
  refine ext_tl ?_
  rw [join_eq, tl_join, tl_mkS, tl_mkS, List.map_map]
  congr 1
  exact (List.map_congr_left fun p _ => tl_mkS p).trans (List.map_id ps)
theorem split_mkS (c : Nat) (hc : c < 256) (l : List Nat) : Txt.split (mkS l) (mkS [c]) = (spl [c] 0 [] l).map mkS := by
  refine map_tl_inj ?_
  rw [split_spl _ _ (by rw [tl_mkS]; simp) (kind_ok (by show (#[c].all (· < 256)) = true; simp [hc])), tl_mkS, tl_mkS, List.map_map]
  exact ((List.map_congr_left fun p _ => tl_mkS p).trans (List.map_id _)).symm
theorem s_minus : ("-" : Str) = mkS [45] := by decide +kernel
theorem s_dot : ("." : Str) = mkS [46] := by decide +kernel
theorem s_colon : (":" : Str) = mkS [58] := by decide +kernel
theorem s_nl : ("\n" : Str) = mkS [10] := by decide +kernel
theorem s_blank : (" " : Str) = mkS [32] := by decide +kernel
theorem log_small {n : Nat} (h : n < 1000000) : ((n : Nat) : Int).natAbs.log2 < 1920 := by
  rw [Int.natAbs_natCast]
  by_cases h0 : n = 0
  · subst h0; decide
  · have := Nat.log2_lt (n := n) h0 (k := 20) |>.mpr (by omega)
    omega
section
variable {X : Cx} {o e : Expr} {to te : TE} {apos pos : Pos}
def rJoin (K : PySem.W.Frag) : V → List V → Hp → VK → Prop := fun x xs H Q => ∃ a p, ∃ ys : List Str, x = .str a ∧ xs = [.ref p] ∧ (SqL K H p (ys.map V.str) ∨ SqT K H p (ys.map V.str)) ∧ (ys.map (·.length)).sum + ys.length * a.length ≤ 16777216 ∧ Q (.str (Txt.join a ys)) H
theorem pe_joinK (K : PySem.W.Frag) (ho : PE X o to) (he : PE X e te) (hK : X.K = K := by rfl) (hs : starEach [e] X.env = [(false, eval e X.env)] := by rfl) (hbase : attributeBase o "join" X.env (eval o X.env) = eval o X.env := by rfl) (hline : (apos.endLine == pos.line) = true := by rfl) :
    PE X (.Call (.Attribute o "join" apos) [e] [] pos) (tM1 (rJoin K) to te) := by
  subst hK
  exact pe_join ho he hs hbase hline
end
/-- what the written part says of the texts' constants -/
structure Signs (K : PySem.W.Frag) (w : World) (mg : Str → Option Value) : Prop where
  g : mg "SIGNS" = some (.ref (He.ga K "SIGNS"))
  t : KTab K w (He.ga K "SIGNS") ["go", "take", "lay"]
  f : ∃ k, mg "FIGURES" = some (.str "0123456789" k)
  v0 : ∃ u, PySem.W.nsIn K (He.ga K "SIGNS") "go" = some (some u) ∧ RelV (.str ">") u
  v1 : ∃ u, PySem.W.nsIn K (He.ga K "SIGNS") "take" = some (some u) ∧ RelV (.str "+") u
  v2 : ∃ u, PySem.W.nsIn K (He.ga K "SIGNS") "lay" = some (some u) ∧ RelV (.str "-") u
  no : PySem.W.nsIn K (He.ga K "SIGNS") "ride" = some none
def kindS (i : Nat) : Str := if i = 0 then "go" else if i = 1 then "take" else "lay"
theorem Signs.at_ {K : PySem.W.Frag} {w : World} {mg : Str → Option Value} (S : Signs K w mg) {i : Nat} (h : i < 3) : ∃ u, PySem.W.nsIn K (He.ga K "SIGNS") (kindS i) = some (some u) ∧ RelV (.str (mkS [kindC i])) u := by
  have e0 : (">" : Str) = mkS [62] := by decide +kernel
  have e1 : ("+" : Str) = mkS [43] := by decide +kernel
  match i, h with
  | 0, _ => have := S.v0; rw [e0] at this; exact this
  | 1, _ => have := S.v1; rw [e1] at this; exact this
  | 2, _ => have := S.v2; rw [s_minus] at this; exact this
theorem Signs.kd {K : PySem.W.Frag} {w : World} {mg : Str → Option Value} (S : Signs K w mg) {i : Nat} (h : i < 3) : KDct K w (He.ga K "SIGNS") (kindS i) (.str (mkS [kindC i])) := by
  obtain ⟨es, n, D, _⟩ := S.t.ex
  obtain ⟨u, h1, h2⟩ := S.at_ h
  exact ⟨es, n, u, D.at_, D.lit, h1, h2⟩
section
variable {P : Program} {w : World} {K : PySem.W.Frag} {mg : Str → Option Value} {base : Heap}
/-! ### number_in -/
def sp_number (K : PySem.W.Frag) : Sp := fun vs H Q E => ∃ l : List Nat, vs = [.str (mkS l)] ∧ l.length ≤ 10000 ∧ (∀ n : Nat, numF l = some n → ∀ H', Same H H' → Q (.int ((n : Nat) : Int)) H') ∧ (numF l = none → ∀ H', Same H H' → E (.ref (He.ga K "BadText")) none H')
theorem fig_mem (c : Nat) : decide (c ∈ ("0123456789" : Str).cps.toList) = dig c := by
  have e : ("0123456789" : Str).cps.toList = [48, 49, 50, 51, 52, 53, 54, 55, 56, 57] := by decide +kernel
  rw [e]
  unfold dig
  refine decide_eq_decide.mpr ?_
  simp only [List.mem_cons, List.not_mem_nil, or_false]
  omega
theorem size1e4 {n : Nat} (h : n ≤ 10000) : n ≤ sizeLine := Nat.le_trans h (by decide)
theorem c_number_in (T : Txt K mg) (R : Errs K mg) (S : Signs K w mg) : Cal P w K mg base (L2.CX P w) 2 "number_in" ["text"] (sp_number K) := by
  refine calX T.d_number_in sc_number_in (fun _ _ _ _ _ _ us hl => match us, hl with | [_], _ => rfl) (fun vs H Q E h => ?_) (fun f cdv A outer s H vs Q E hr h => ?_)
  · obtain ⟨l, rfl, _⟩ := h
    rfl
  · obtain ⟨l, rfl, hl, q, qe⟩ := h
    refine ⟨_, (pss_cons (ps_if (PW.pt (pw_or (pt_not (pt_chain op_le op_le pe_int (pe_callB call_len_str rfl T.b_len PySem.boot_len (pa_cons (pv 0) pa_nil)) pe_int)) (pw_or (pt_not (pt_val (pe_callB (allL K rfl) rfl T.b_all (by decide +kernel) (pa_cons (pe_lc (own := [("sign", 1)]) (g := gName 1) rfl sc_number_in.nd (pi_str (pv 0)) (blkOk_by (own := [("sign", 1)]) (N := ["text", "sign"]) (sc := (defScope s_number_in)) (by decide +kernel)) (fun _ _ _ _ _ => pg_name (i := 1) sc_number_in.nd rfl (Or.inl rfl)) (fun _ _ _ _ _ => pts_nil) (fun _ _ _ _ _ => (pe_cmpR op_in_sign (pv 1) (pe_glob (v := .str "0123456789") rfl S.f.choose_spec ⟨_, rfl⟩) rfl))) pa_nil)))) (pw_or1 (pt_cmpR op_ne (pe_callTy call_str_int rfl T.b_str (by decide +kernel) (pa_cons (pe_callTy call_int_str rfl T.b_int (by decide +kernel) (pa_cons (pv 0) pa_nil)) pa_nil)) (pv 0) (nomark _)))))) (pss_one (ps_raise rfl (takes_of rfl rfl rfl rfl) (pmkE R (by decide +kernel) (by decide +kernel) rfl))) pss_nil)
      (pss_one (ps_ret (pe_callTy call_int_str rfl T.b_int (by decide +kernel) (pa_cons (pv 0) pa_nil))))), ?_⟩
    have hz := size1e4 hl
    have bad : ∀ {H' : Hp}, Same H H' → numF l = none → E (.ref (He.ga K "BadText")) none H' := fun s h => qe h _ s
    have hlen : (mkS l).length = l.length := mkS_len l
    by_cases h1 : 1 ≤ l.length
    · by_cases h5 : l.length ≤ 5
      · refine ⟨_, rfl, mkS l, rfl, by rw [hlen]; exact hz, _, _, rfl, rfl, true, congrArg V.bl (decide_eq_true (by rw [hlen]; omega)), iteT ⟨_, _, rfl, rfl, true, congrArg V.bl (decide_eq_true (by rw [hlen]; omega)), iteF ?_⟩⟩
        refine ⟨_, rfl, mkS l, rfl, fun D hD => ?_⟩
        refine lc_rel walk_str hD (by show l.toArray.size ≤ 1000; rw [List.size_toArray]; omega) (fun _ _ => trivial) (fun _ => true) (fun i v _ => v = .bl (dig (l.getD i 0))) (fun _ _ _ _ _ _ _ h => h) (fun i x H2 H3 lx hi s1 hy y => ?_) (fun ys H2 s1 hy hp => ?_)
        · obtain ⟨rfl, c, hc, rfl⟩ := y
          have hc : l.toArray[i]? = some c := hc
          rw [List.getElem?_toArray] at hc
          refine ⟨Same.refl _, rfl, fun Q' q' => q' H3 (Same.refl _), fun _ H4 _ Q' q' => ?_⟩
          refine ⟨_, rfl, c, _, rfl, rfl, ?_⟩
          rw [fig_mem]
          refine q' _ H4 (Same.refl _) ?_
          rw [List.getD_eq_getElem?_getD, hc]
          rfl
        · have hsz : (mkS l).cps.size = l.length := by show l.toArray.size = _; rw [List.size_toArray]
          rw [hsz, show (List.range l.length).filter (fun _ => true) = List.range l.length by simp] at hp
          have e := all_bools (g := fun i => dig (l.getD i 0)) hp
          have e2 : (List.range l.length).map (fun i => dig (l.getD i 0)) = l.map dig := by
            have := congrArg (List.map dig) (Oat.range_getD l 0)
            rw [List.map_map] at this
            exact this
          refine ⟨D, _, rfl, sql (by rw [hy, e]), ?_⟩
          rw [e2, List.all_map]
          cases hd : l.all (id ∘ dig) with
          | false =>
            refine ⟨false, rfl, iteT (iteT (bad s1 ?_))⟩
            unfold numF
            rw [show l.all dig = false from hd]
            simp
          | true =>
            refine ⟨true, rfl, iteF ?_⟩
            have hne : l ≠ [] := fun z => by rw [z] at h1; exact absurd h1 (by decide)
            have hdg : NumText.AllDigits l := fun c hc => of_decide_eq_true (List.all_eq_true.mp (show l.all dig = true from hd) c hc)
            have hin : PySem.intText? (mkS l) = some ((NumText.digitsVal l : Nat) : Int) := intText_digits (x := mkS l) hdg hne (by rw [hlen]; omega)
            have hlt : NumText.digitsVal l < 1000000 := by
              have h6 := digits_lt l 0 hdg
              have h7 : 10 ^ l.length ≤ 10 ^ 5 := Nat.pow_le_pow_right (by decide) h5
              unfold NumText.digitsVal
              omega
            refine ⟨_, rfl, mkS l, _, rfl, hin, by rw [hlen]; omega, _, rfl, log_small hlt, _, rfl, rfl, _, rfl, ?_⟩
            rw [str_num]
            by_cases hnum : numL (NumText.digitsVal l) = l
            · rw [hnum, decide_eq_true rfl]
              have hF : numF l = some (NumText.digitsVal l) := by
                unfold numF
                rw [hnum, decide_eq_true ⟨h1, h5⟩, show l.all dig = true from hd, decide_eq_true rfl]
                rfl
              exact iteF ⟨_, rfl, mkS l, _, rfl, hin, by rw [hlen]; omega, q _ hF _ s1⟩
            · rw [decide_eq_false (fun z => hnum (mkS_inj (by injection z)))]
              refine iteT (bad s1 ?_)
              unfold numF
              rw [decide_eq_false hnum]
              simp
      · refine ⟨_, rfl, mkS l, rfl, by rw [hlen]; exact hz, _, _, rfl, rfl, true, congrArg V.bl (decide_eq_true (by rw [hlen]; omega)), iteT ⟨_, _, rfl, rfl, false, congrArg V.bl (decide_eq_false (by rw [hlen]; omega)), iteT (iteT (bad (Same.refl _) ?_))⟩⟩
        unfold numF
        rw [decide_eq_false (fun z => h5 z.2)]
        rfl
    · refine ⟨_, rfl, mkS l, rfl, by rw [hlen]; exact hz, _, _, rfl, rfl, false, congrArg V.bl (decide_eq_false (by rw [hlen]; omega)), iteF ⟨false, rfl, iteT (iteT (bad (Same.refl _) ?_))⟩⟩
      unfold numF
      rw [decide_eq_false (fun z => h1 z.1)]
      rfl
end
end Oa
namespace Oat
open PySem TL
theorem cellL_len {c : Nat} {o : Option Nat} (h : ∀ n, o = some n → n < 100000) : (cellL c o).length ≤ 5 := by
  cases o with
  | none => show 1 ≤ 5; decide
  | some n => exact numL_len (by decide) (h n rfl)
theorem rowL_len {a w : Option Nat} (ha : ∀ n, a = some n → n < 100000) (hw : ∀ n, w = some n → n < 100000) : (rowL a w).length ≤ 11 := by
  unfold rowL
  have h1 := cellL_len (c := 45) ha
  have h2 := cellL_len (c := 46) hw
  rw [List.length_append, List.length_cons]
  omega
theorem zip_range {A W : List (Option Nat)} (hl : A.length = W.length) : (List.range A.length).map (fun k => rowL (A.getD k none) (W.getD k none)) = List.zipWith rowL A W := by
  refine List.ext_getElem? fun i => ?_
  rw [List.getElem?_map]
  by_cases h : i < A.length
  · rw [List.getElem?_range h, List.getElem?_zipWith, List.getElem?_eq_getElem h, List.getElem?_eq_getElem (by omega : i < W.length)]
    show some (rowL (A.getD i none) (W.getD i none)) = _
    rw [List.getD_eq_getElem?_getD, List.getD_eq_getElem?_getD, List.getElem?_eq_getElem h, List.getElem?_eq_getElem (by omega : i < W.length)]
    rfl
  · rw [List.getElem?_eq_none (by rw [List.length_range]; omega), List.getElem?_eq_none (by rw [List.length_zipWith]; omega)]
    rfl
theorem sum_le {α : Type} {f : α → Nat} {m : Nat} : ∀ {l : List α}, (∀ x ∈ l, f x ≤ m) → (l.map f).sum ≤ l.length * m
  | [], _ => Nat.zero_le _
  | x :: l, h => by
    rw [List.map_cons, List.sum_cons, List.length_cons, Nat.succ_mul]
    have h1 := h x List.mem_cons_self
    have h2 := sum_le (f := f) (l := l) fun y hy => h y (List.mem_cons_of_mem _ hy)
    omega
end Oat
namespace Oa
open PySem PySem.Spec PyProof.Rows L2 Oat TL
section
variable {P : Program} {w : World} {K : PySem.W.Frag} {mg : Str → Option Value} {base : Heap}
/-! ### a land with wants, written -/
structure LandW (A W : List (Option Nat)) : Prop where
  l : A.length = W.length
  n1 : 1 ≤ A.length
  n : A.length ≤ 30
  z : A[0]? = some none
  s : ∀ i, 1 ≤ i → i < A.length → ∃ k, A[i]? = some (some k)
  a : ∀ k, some k ∈ A → k < 100000
  w : ∀ k, some k ∈ W → k < 100000
theorem cell_opt {σ : L2.St} {H : Hp} {Q : VK} {d : Addr} {W : List (Option Nat)} {k j m c : Nat} {o : Option Nat} {s : Str} (hj : σ[j]? = some (some (.ref d))) (hm : σ[m]? = some (some (.int ((k : Nat) : Int)))) (hS : SqT K H d (wantsV W)) (ho : W[k]? = some o) (hn : ∀ n, o = some n → n < 100000) (hs : s = mkS [c]) (q : Q (.str (mkS (cellL c o))) H) :
    tIf (tTest (tOp (fun x y H Q => y = .non ∧ Q (.bl (decide (x = .non))) H) (tOp (rIxT K) (tVar j) (tVar m)) (tC .non))) (tC (.str s)) (tCB (fun xs H Q => ∃ i : Int, xs = [.int i] ∧ i.natAbs.log2 < 1920 ∧ Q (.str (Str.ofString (toString i))) H) (tCons (tOp (rIxT K) (tVar j) (tVar m)) tNil)) σ H Q := by
  have hV : (wantsV W)[k]? = some (optV o) := by unfold wantsV; rw [List.getElem?_map, ho]; rfl
  refine ⟨_, hj, _, hm, d, _, _, _, rfl, rfl, hS, atI_nat hV, rfl, _, rfl, ?_⟩
  cases o with
  | none =>
    refine iteT ?_
    show Q (.str s) H
    rw [hs]
    exact q
  | some n =>
    refine iteF ⟨_, hj, _, hm, d, _, _, _, rfl, rfl, hS, atI_nat hV, _, rfl, log_small (by have := hn n rfl; omega), ?_⟩
    rw [str_num]
    exact q
theorem join_rows {K : PySem.W.Frag} {σ : L2.St} {H : Hp} {Q : VK} {l : Addr} {j : Nat} {A W : List (Option Nat)} (hj : σ[j]? = some (some (.ref l))) (hA : LandW A W) (hl : H l = some (.lst ((List.range A.length).map fun k => V.str (mkS (rowL (A.getD k none) (W.getD k none)))))) (q : Q (.str (mkS (landL A W))) H) : tM1 (rJoin K) (tC (.str "\n")) (tVar j) σ H Q := by
  have e : (List.range A.length).map (fun k => V.str (mkS (rowL (A.getD k none) (W.getD k none)))) = (((List.zipWith rowL A W).map mkS).map V.str) := by
    rw [← zip_range hA.l, List.map_map, List.map_map]
    rfl
  rw [e] at hl
  refine ⟨⟨_, rfl⟩, _, hj, _, l, (List.zipWith rowL A W).map mkS, rfl, rfl, .inl (sql hl), ?_, ?_⟩
  · have hlen : ((List.zipWith rowL A W).map mkS).length ≤ 30 := by
      rw [List.length_map, List.length_zipWith]
      have := hA.n
      omega
    have h1 : (((List.zipWith rowL A W).map mkS).map (·.length)).sum ≤ ((List.zipWith rowL A W).map mkS).length * 11 := by
      refine sum_le fun x hx => ?_
      obtain ⟨p, hp, rfl⟩ := List.mem_map.mp hx
      rw [mkS_len]
      obtain ⟨i, hi, rfl⟩ := List.mem_iff_getElem.mp hp
      rw [List.getElem_zipWith]
      exact rowL_len (fun n hn => hA.a n (by rw [← hn]; exact List.getElem_mem _)) (fun n hn => hA.w n (by rw [← hn]; exact List.getElem_mem _))
    have h2 : ("\n" : Str).length = 1 := by decide +kernel
    rw [h2]
    omega
  · rw [s_nl, join_mkS]
    exact q
theorem getD_mem {A : List (Option Nat)} {i n : Nat} (h : A.getD i none = some n) : some n ∈ A := by
  rw [List.getD_eq_getElem?_getD] at h
  cases e : A[i]? with
  | none => rw [e] at h; cases h
  | some o => rw [e] at h; exact List.mem_of_getElem? (by rw [e]; exact congrArg some h)
theorem get_at {A : List (Option Nat)} {i : Nat} (h : i < A.length) : A[i]? = some (A.getD i none) := by
  rw [List.getD_eq_getElem?_getD, List.getElem?_eq_getElem h]
  rfl
theorem row_str {a w : List Nat} : (mkS a ++ mkS [58]) ++ mkS w = mkS (a ++ (58 :: w)) := by
  rw [mkS_app, mkS_app, List.append_assoc]
  rfl
def sp_ltext (K : PySem.W.Frag) : Sp := fun vs H Q _ => ∃ a d A W, vs = [.ref a, .ref d] ∧ SqT K H a (wantsV A) ∧ SqT K H d (wantsV W) ∧ LandW A W ∧ ∀ H', Same H H' → Q (.str (mkS (landL A W))) H'
theorem c__law_text (T : Txt K mg) : Cal P w K mg base CX0 1 "_law_text" ["land_here", "wants_here"] (sp_ltext K) := by
  refine cal0 T.d__law_text sc__law_text (fun _ _ _ _ _ _ us hl => match us, hl with | [_, _], _ => rfl) (fun vs H Q E h => ?_) (fun f cdv A' outer s H vs Q E hr h => ?_)
  · obtain ⟨a, d, A, W, rfl, _⟩ := h
    rfl
  · obtain ⟨a, d, A, W, rfl, hA, hD, hL, q⟩ := h
    refine ⟨_, (pss_cons (ps_set (i := 2) sc__law_text.nd rfl (Or.inl rfl) (pe_lst pa_nil))
      (pss_cons (ps_for PassesOwn.never rfl (pi_range1 rfl T.b_range (pa_cons (pe_callB (lenS K) rfl T.b_len PySem.boot_len (pa_cons (pv 0) pa_nil)) pa_nil)) (pg_name (i := 3) sc__law_text.nd rfl (Or.inl rfl)) (pss_one (ps_expr (pe_bm PySem.F.plainAttrs_list PySem.F.slot_list_append PySem.F.type_list_append mt_append (pv 2) (pa_cons (pe_op op_add_str (pe_op op_add_str (pe_ifExp (pt_cmpR op_eq (pv 3) pe_int (nomark _)) pe_str (pe_callTy call_str_int rfl T.b_str (by decide +kernel) (pa_cons (pe_ix (ixT K) (pv 0) (pv 3) (fun _ _ => rfl)) pa_nil))) pe_str) (pe_ifExp (pt_cmpR op_isN (pe_ix (ixT K) (pv 1) (pv 3) (fun _ _ => rfl)) pe_non (nomark _)) pe_str (pe_callTy call_str_int rfl T.b_str (by decide +kernel) (pa_cons (pe_ix (ixT K) (pv 1) (pv 3) (fun _ _ => rfl)) pa_nil)))) pa_nil)))))
      (pss_one (ps_ret (pe_joinK K pe_str (pv 2)))))), ?_⟩
    have el : (wantsV A).length = A.length := wantsV_len A
    have hn := hL.n
    refine ⟨Nat.zero_le _, fun l nl => ?_⟩
    have s1 := same_new (o := .lst []) nl
    refine ⟨_, rfl, a, _, rfl, .inr (same_t s1 hA), _, rfl, by omega, by omega, ?_⟩
    rw [el, show (((A.length : Nat) : Int)).toNat = A.length by omega]
    refine for_it walk_range (fun i σ H' => ∃ z, σ = [some (.ref a), some (.ref d), some (.ref l), z] ∧ Same H H' ∧ H' l = some (.lst ((List.range i).map fun k => V.str (mkS (rowL (A.getD k none) (W.getD k none)))))) ⟨none, rfl, s1, upd_same⟩ (fun _ _ _ _ _ => trivial) (fun i v σ H6 H7 hi p y => ?_) (fun σ H6 p => ?_)
    · obtain ⟨z, rfl, s6, hl6⟩ := p
      obtain ⟨rfl, rfl⟩ := y
      dsimp only
      rw [Int.zero_add]
      show tDrop _ _ [some (.ref a), some (.ref d), some (.ref l), some (.int ((i : Nat) : Int))] H7
      have ha := hL.a
      have hw := hL.w
      have l1 := cellL_len (c := 45) (o := A.getD i none) fun n h => ha n (getD_mem h)
      have l2 := cellL_len (c := 46) (o := W.getD i none) fun n h => hw n (getD_mem h)
      refine ⟨_, rfl, .inl ⟨rfl, _, sql hl6⟩, ?_⟩
      refine ⟨_, rfl, rfl, _, rfl, ?_⟩
      rw [decI i]
      by_cases h0 : i = 0
      · rw [decide_eq_true h0]
        refine iteT ⟨_, _, rfl, rfl, by decide +kernel, ?_⟩
        have e : A.getD i none = none := by rw [h0, List.getD_eq_getElem?_getD, hL.z]; rfl
        have ec : ("-" : Str) ++ (":" : Str) = mkS (cellL 45 (A.getD i none)) ++ mkS [58] := by rw [e, s_minus, s_colon]; rfl
        rw [ec]
        refine cell_opt (c := 46) rfl rfl (same_t s6 hD) (get_at (by have := hL.l; omega)) (fun n h => hw n (getD_mem h)) s_dot ?_
        refine ⟨_, _, rfl, rfl, ?_, ?_⟩
        · rw [mkS_app, mkS_len, mkS_len, List.length_append]
          exact size100 (by show _ + 1 + _ ≤ 100; omega)
        · rw [row_str]
          refine ⟨_, _, _, rfl, rfl, hl6, ?_, _, rfl, same_mut s6 nl, ?_⟩
          · rw [List.length_map, List.length_range]
            exact Nat.lt_of_lt_of_le (show i < 31 by omega) (size100 (by decide))
          · rw [upd_same, List.range_succ, List.map_append]
            rfl
      · rw [decide_eq_false h0]
        obtain ⟨n, hn1⟩ := hL.s i (by omega) hi
        have e : A.getD i none = some n := by rw [List.getD_eq_getElem?_getD, hn1]; rfl
        have hV : (wantsV A)[i]? = some (.int ((n : Nat) : Int)) := by unfold wantsV; rw [List.getElem?_map, hn1]; rfl
        refine iteF ⟨_, rfl, _, rfl, a, _, _, _, rfl, rfl, same_t s6 hA, atI_nat hV, _, rfl, log_small (by have := ha n (getD_mem e); omega), ?_⟩
        have ec : Str.ofString (toString ((n : Nat) : Int)) = mkS (cellL 45 (A.getD i none)) := by rw [str_num, e]; rfl
        rw [ec]
        refine ⟨_, _, rfl, rfl, by rw [mkS_len]; exact size100 (by show _ + 1 ≤ 100; omega), ?_⟩
        rw [s_colon]
        refine cell_opt (c := 46) rfl rfl (same_t s6 hD) (get_at (by have := hL.l; omega)) (fun n h => hw n (getD_mem h)) s_dot ?_
        refine ⟨_, _, rfl, rfl, ?_, ?_⟩
        · rw [mkS_app, mkS_len, mkS_len, List.length_append]
          exact size100 (by show _ + 1 + _ ≤ 100; omega)
        · rw [row_str]
          refine ⟨_, _, _, rfl, rfl, hl6, ?_, _, rfl, same_mut s6 nl, ?_⟩
          · rw [List.length_map, List.length_range]
            exact Nat.lt_of_lt_of_le (show i < 31 by omega) (size100 (by decide))
          · rw [upd_same, List.range_succ, List.map_append]
            rfl
    · obtain ⟨z, rfl, s6, hl6⟩ := p
      exact join_rows rfl hL hl6 (q _ s6)
/-! ### land_text -/
abbrev headA (L : List Nat) : List (Option Nat) := none :: L.map some
theorem headA_V (L : List Nat) : wantsV (headA L) = landV L := by
  unfold wantsV landV headA
  rw [List.map_cons, List.map_map]
  rfl
theorem headA_len (L : List Nat) : (headA L).length = L.length + 1 := by
  unfold headA
  rw [List.length_cons, List.length_map]
theorem landW_of {L : List Nat} {W : List (Option Nat)} (hl : L.length < 30) (wf : WfL L) (hw : W.length = L.length + 1) (wo : WantsOk W) : LandW (headA L) W := by
  refine ⟨by rw [headA_len, hw], by rw [headA_len]; omega, by rw [headA_len]; omega, rfl, fun i h1 h2 => ?_, fun k hk => ?_, fun k hk => ?_⟩
  · rw [headA_len] at h2
    obtain ⟨j, rfl⟩ : ∃ j, i = j + 1 := ⟨i - 1, by omega⟩
    exact ⟨L[j]'(by omega), by unfold headA; rw [List.getElem?_cons_succ, List.getElem?_map, List.getElem?_eq_getElem (by omega)]; rfl⟩
  · unfold headA at hk
    rcases List.mem_cons.mp hk with z | z
    · cases z
    · obtain ⟨x, hx, e⟩ := List.mem_map.mp z
      cases e
      obtain ⟨i, hi, rfl⟩ := List.mem_iff_getElem.mp hx
      have := wf i hi
      rw [List.getD_eq_getElem?_getD, List.getElem?_eq_getElem hi] at this
      have this : L[i] ≤ i := this
      omega
  · obtain ⟨i, hi, e⟩ := List.mem_iff_getElem.mp hk
    have := wo i k (by rw [List.getElem?_eq_getElem hi, e])
    omega
def sp_land_text (K : PySem.W.Frag) : Sp := fun vs H Q _ => ∃ a d L W, vs = [.ref a, .ref d] ∧ SqT K H a (landV L) ∧ SqT K H d (wantsV W) ∧ L.length < 30 ∧ WfL L ∧ W.length = L.length + 1 ∧ WantsOk W ∧ ∀ H', Same H H' → Q (.str (mkS (landL (headA L) W))) H'
theorem c_land_text (T : Txt K mg) : Cal P w K mg base CX0 4 "land_text" ["land", "wants"] (sp_land_text K) := by
  refine cal0 T.d_land_text sc_land_text (fun _ _ _ _ _ _ us hl => match us, hl with | [_, _], _ => rfl) (fun vs H Q E h => ?_) (fun f cdv A' outer s H vs Q E hr h => ?_)
  · obtain ⟨a, d, L, W, rfl, _⟩ := h
    rfl
  · obtain ⟨a, d, L, W, rfl, hA, hD, h30, wf, hwl, wo, q⟩ := h
    refine ⟨_, (pss_cons (ps_expr (pcall (c_look_land T) (hr.mono (by omega)) (pa_cons (pv 0) pa_nil)))
      (pss_cons (ps_if (pt_not (pt_val (pcall (c_is_wants T) (hr.mono (by omega)) (pa_cons (pv 0) (pa_cons (pv 1) pa_nil))))) (pss_one ps_never) pss_nil)
      (pss_cons (ps_set (i := 2) sc_land_text.nd rfl (Or.inl rfl) (pe_lst pa_nil))
      (pss_cons (ps_for PassesOwn.never rfl (pi_range1 rfl T.b_range (pa_cons (pe_callB (lenS K) rfl T.b_len PySem.boot_len (pa_cons (pv 0) pa_nil)) pa_nil)) (pg_name (i := 3) sc_land_text.nd rfl (Or.inl rfl)) (pss_cons (ps_set (i := 4) sc_land_text.nd rfl (Or.inl rfl) (pe_ifExp (pt_cmpR op_isN (pe_ix (ixT K) (pv 0) (pv 3) (fun _ _ => rfl)) pe_non (nomark _)) pe_str (pe_callTy call_str_int rfl T.b_str (by decide +kernel) (pa_cons (pe_ix (ixT K) (pv 0) (pv 3) (fun _ _ => rfl)) pa_nil))))
      (pss_one (ps_expr (pe_bm PySem.F.plainAttrs_list PySem.F.slot_list_append PySem.F.type_list_append mt_append (pv 2) (pa_cons (pe_op op_add_str (pe_op op_add_str (pv 4) pe_str) (pe_ifExp (pt_cmpR op_isN (pe_ix (ixT K) (pv 1) (pv 3) (fun _ _ => rfl)) pe_non (nomark _)) pe_str (pe_callTy call_str_int rfl T.b_str (by decide +kernel) (pa_cons (pe_ix (ixT K) (pv 1) (pv 3) (fun _ _ => rfl)) pa_nil)))) pa_nil))))))
      (pss_one (ps_ret (pe_joinK K pe_str (pv 2)))))))), ?_⟩
    have hL := landW_of h30 wf hwl wo
    have el : (landV L).length = L.length + 1 := landV_len L
    refine ⟨_, rfl, a, L, rfl, hA, h30, wf, fun H1 s1 => ?_⟩
    refine ⟨_, rfl, _, rfl, a, d, L, W, rfl, same_t s1 hA, same_t s1 hD, hwl, h30, wo, fun H2 s2 => ⟨true, rfl, iteF ?_⟩⟩
    have s02 := s1.trans s2
    refine ⟨Nat.zero_le _, fun l nl => ?_⟩
    have s3 := s02.trans (same_new (o := .lst []) nl)
    have nl : H l = none := s02.free nl
    have hA3 := same_t s3 hA
    have hD3 := same_t s3 hD
    refine ⟨_, rfl, a, _, rfl, .inr hA3, _, rfl, by omega, by omega, ?_⟩
    rw [el, show (((L.length + 1 : Nat) : Int)).toNat = (headA L).length by rw [headA_len]; omega]
    have q : ∀ H', Same H H' → Q (.str (mkS (landL (headA L) W))) H' := q
    have hn := hL.n
    refine for_it walk_range (fun i σ H' => ∃ z z4, σ = [some (.ref a), some (.ref d), some (.ref l), z, z4] ∧ Same H H' ∧ H' l = some (.lst ((List.range i).map fun k => V.str (mkS (rowL ((headA L).getD k none) (W.getD k none)))))) ⟨none, none, rfl, s3, upd_same⟩ (fun _ _ _ _ _ => trivial) (fun i v σ H6 H7 hi p y => ?_) (fun σ H6 p => ?_)
    · obtain ⟨z, z4, rfl, s6, hl6⟩ := p
      obtain ⟨rfl, rfl⟩ := y
      dsimp only
      rw [Int.zero_add]
      show tSeq _ _ _ [some (.ref a), some (.ref d), some (.ref l), some (.int ((i : Nat) : Int)), z4] H7
      have ha := hL.a
      have hw := hL.w
      have l1 := cellL_len (c := 45) (o := (headA L).getD i none) fun n h => ha n (getD_mem h)
      have l2 := cellL_len (c := 46) (o := W.getD i none) fun n h => hw n (getD_mem h)
      have hA' : SqT K H7 a (wantsV (headA L)) := by rw [headA_V]; exact same_t s6 hA
      refine cell_opt (c := 45) rfl rfl hA' (get_at hi) (fun n h => ha n (getD_mem h)) s_minus ?_
      dsimp only [gName]
      show tDrop _ _ [some (.ref a), some (.ref d), some (.ref l), some (.int ((i : Nat) : Int)), some (.str (mkS (cellL 45 ((headA L).getD i none))))] H7
      refine ⟨_, rfl, .inl ⟨rfl, _, sql hl6⟩, ?_⟩
      refine ⟨_, rfl, _, _, rfl, rfl, by rw [mkS_len]; exact size100 (by show _ + 1 ≤ 100; omega), ?_⟩
      rw [s_colon]
      refine cell_opt (c := 46) rfl rfl (same_t s6 hD) (get_at (by have := hL.l; omega)) (fun n h => hw n (getD_mem h)) s_dot ?_
      refine ⟨_, _, rfl, rfl, ?_, ?_⟩
      · rw [mkS_app, mkS_len, mkS_len, List.length_append]
        exact size100 (by show _ + 1 + _ ≤ 100; omega)
      · rw [row_str]
        refine ⟨_, _, _, rfl, rfl, hl6, ?_, _, _, rfl, same_mut s6 nl, ?_⟩
        · rw [List.length_map, List.length_range]
          exact Nat.lt_of_lt_of_le (show i < 31 by omega) (size100 (by decide))
        · rw [upd_same, List.range_succ, List.map_append]
          rfl
    · obtain ⟨z, z4, rfl, s6, hl6⟩ := p
      exact join_rows rfl hL hl6 (q _ s6)
end
end Oa
namespace Oa
open PySem PySem.Spec PyProof.Rows L2 Oat TL
section
variable {P : Program} {w : World} {K : PySem.W.Frag} {mg : Str → Option Value} {base : Heap}
/-! ### deeds, written -/
def deedT (d : Nat × Nat × Nat) : List V := [.str (kindS d.1), .int ((d.2.1 : Nat) : Int), .int ((d.2.2 : Nat) : Int)]
theorem word_len {d : Nat × Nat × Nat} (h : DOk d) : (numL d.2.1).length ≤ 1 ∧ (numL d.2.2).length ≤ 5 := ⟨numL_len (by decide) (by have := h.2.1; omega), numL_len (by decide) h.2.2⟩
def sp_deed_text (K : PySem.W.Frag) : Sp := fun vs H Q _ => ∃ t d, vs = [.ref t] ∧ SqT K H t (deedT d) ∧ DOk d ∧ Q (.str (mkS (wordL d))) H
theorem c_deed_text (T : Txt K mg) (S : Signs K w mg) : Cal P w K mg base CX0 1 "deed_text" ["deed"] (sp_deed_text K) := by
  refine cal0 T.d_deed_text sc_deed_text (fun _ _ _ _ _ _ us hl => match us, hl with | [_], _ => rfl) (fun vs H Q E h => ?_) (fun f cdv A' outer s H vs Q E hr h => ?_)
  · obtain ⟨t, d, rfl, _⟩ := h
    rfl
  · obtain ⟨t, d, rfl, hD, hd, q⟩ := h
    refine ⟨_, (pss_one (ps_ret (pe_joined (PJ.cons (pe_fmt (pe_ix (ixT K) (pv 0) pe_int (fun _ _ => rfl))) (PJ.cons (pe_fmt (pe_ix (ixKD K w) (pe_glob (v := .ref (He.ga K "SIGNS")) rfl S.g rfl) (pe_ix (ixT K) (pv 0) pe_int (fun _ _ => rfl)) (fun _ _ => rfl))) (PJ.cons (pe_fmt (pe_ix (ixT K) (pv 0) pe_int (fun _ _ => rfl))) PJ.nil)))))), ?_⟩
    obtain ⟨l1, l2⟩ := word_len hd
    have h6 := hd.2.1
    have h5 := hd.2.2
    refine ⟨_, rfl, t, _, _, _, rfl, rfl, hD, atI_nat (j := 1) rfl, .inr ⟨_, rfl, log_small (by omega), _, rfl, ?_, ?_⟩⟩
    · rw [str_num]
      show (Str.empty ++ mkS (numL d.2.1)).length ≤ sizeLine
      rw [show Str.empty = mkS [] from rfl, mkS_app, mkS_len]
      exact size100 (by show (numL d.2.1).length ≤ 100; omega)
    refine ⟨_, rfl, t, _, _, _, rfl, rfl, hD, atI_nat (j := 0) rfl, _, _, _, rfl, rfl, S.kd hd.1, .inl ⟨_, rfl, by rw [mkS_len]; exact size100 (by show 1 ≤ 100; decide), _, rfl, ?_, ?_⟩⟩
    · rw [str_num, show Str.empty = mkS [] from rfl, mkS_app, mkS_app, mkS_len]
      exact size100 (by rw [List.length_append]; show (numL d.2.1).length + 1 ≤ 100; omega)
    refine ⟨_, rfl, t, _, _, _, rfl, rfl, hD, atI_nat (j := 2) rfl, .inr ⟨_, rfl, log_small (by omega), _, rfl, ?_, ?_⟩⟩
    · rw [str_num, str_num, show Str.empty = mkS [] from rfl, mkS_app, mkS_app, mkS_app, mkS_len]
      exact size100 (by rw [List.length_append, List.length_append]; show (numL d.2.1).length + 1 + (numL d.2.2).length ≤ 100; omega)
    · show Q (.str _) H
      rw [str_num, str_num, show Str.empty = mkS [] from rfl, mkS_app, mkS_app, mkS_app]
      have e : [] ++ numL d.2.1 ++ [kindC d.1] ++ numL d.2.2 = wordL d := by
        unfold wordL
        rw [List.nil_append, List.append_assoc]
        rfl
      rw [e]
      exact q
/-! ### is_deed -/
def isIntV : V → Bool
  | .int _ => true
  | .bl _ => true
  | _ => false
def isBlV : V → Bool
  | .bl _ => true
  | _ => false
theorem flat_ty {H : Hp} {v : V} (h : Flat v) : ∃ t, TyX K H v (.type t) ∧ kitB t "int" = some (isIntV v) ∧ kitB t "bool" = some (isBlV v) := by
  rcases h with rfl | ⟨i, rfl⟩ | ⟨b, rfl⟩ | ⟨s, rfl⟩
  · exact ⟨"NoneType", TyX.base TyOf.non, by decide +kernel, by decide +kernel⟩
  · exact ⟨"int", TyX.base (TyOf.int _), by show kitB "int" "int" = some true; decide +kernel, by show kitB "int" "bool" = some false; decide +kernel⟩
  · exact ⟨"bool", TyX.base (TyOf.bl _), by show kitB "bool" "int" = some true; decide +kernel, by show kitB "bool" "bool" = some true; decide +kernel⟩
  · exact ⟨"str", TyX.base (TyOf.str _), by show kitB "str" "int" = some false; decide +kernel, by show kitB "str" "bool" = some false; decide +kernel⟩
inductive DeedV (K : PySem.W.Frag) (H : Hp) : V → Bool → Prop
  | none {v : V} : ThS K H v none → DeedV K H v false
  | len {a : Addr} {xs : List V} : SqT K H a xs → xs.length ≠ 3 → DeedV K H (.ref a) false
  | ride {a : Addr} {x y : V} : SqT K H a [.str "ride", x, y] → DeedV K H (.ref a) false
  | kind {a : Addr} {i : Nat} {x y : V} : i < 3 → SqT K H a [.str (kindS i), x, y] → Flat x → Flat y → DeedV K H (.ref a) (isWholeV x 0 5 && isWholeV y 0 99999)
theorem DeedV.same {H H' : Hp} {v : V} {b : Bool} (h : DeedV K H v b) (s : Same H H') : DeedV K H' v b := by
  cases h with
  | none h => exact .none (h.same s)
  | len h1 h2 => exact .len (same_t s h1) h2
  | ride h => exact .ride (same_t s h)
  | kind h1 h2 h3 h4 => exact .kind h1 (same_t s h2) h3 h4
theorem deedV_ok {H : Hp} {t : Addr} {d : Nat × Nat × Nat} (h : SqT K H t (deedT d)) (hd : DOk d) : DeedV K H (.ref t) true := by
  have e : (isWholeV (.int ((d.2.1 : Nat) : Int)) 0 5 && isWholeV (.int ((d.2.2 : Nat) : Int)) 0 99999) = true := by
    have h6 := hd.2.1
    have h5 := hd.2.2
    show (decide _ && decide _) = true
    rw [decide_eq_true ⟨by omega, by omega⟩, decide_eq_true ⟨by omega, by omega⟩]
    rfl
  rw [← e]
  exact .kind hd.1 h (.inr (.inl ⟨_, rfl⟩)) (.inr (.inl ⟨_, rfl⟩))
def sp_is_deed (K : PySem.W.Frag) : Sp := fun vs H Q _ => ∃ v b, vs = [v] ∧ DeedV K H v b ∧ ∀ H', Same H H' → Q (.bl b) H'
theorem c_is_deed (T : Txt K mg) (S : Signs K w mg) : Cal P w K mg base CX0 1 "is_deed" ["thing"] (sp_is_deed K) := by
  refine cal0 T.d_is_deed sc_is_deed (fun _ _ _ _ _ _ us hl => match us, hl with | [_], _ => rfl) (fun vs H Q E h => ?_) (fun f cdv A' outer s H vs Q E hr h => ?_)
  · obtain ⟨v, b, rfl, _⟩ := h
    rfl
  · obtain ⟨v, b, rfl, hD, q⟩ := h
    refine ⟨_, (pss_cons (ps_if (PW.pt (pw_or (pt_not (pt_val (pe_callB (isi K) rfl T.b_isinstance (by decide +kernel) (pa_cons (pv 0) (pa_cons (pe_bltn (v := .ty "tuple") rfl T.b_tuple (by decide +kernel) rfl) pa_nil))))) (pw_or (pt_cmpR op_ne (pe_callB (lenS K) rfl T.b_len PySem.boot_len (pa_cons (pv 0) pa_nil)) pe_int (nomark _)) (pw_or (pt_not (pt_val (pe_callB (isi K) rfl T.b_isinstance (by decide +kernel) (pa_cons (pe_ix (ixT K) (pv 0) pe_int (fun _ _ => rfl)) (pa_cons (pe_bltn (v := .ty "str") rfl T.b_str (by decide +kernel) rfl) pa_nil))))) (pw_or1 (pt_cmpR (notInKD K w) (pe_ix (ixT K) (pv 0) pe_int (fun _ _ => rfl)) (pe_glob (v := .ref (He.ga K "SIGNS")) rfl S.g rfl) rfl)))))) (pss_one (ps_ret pe_bl)) pss_nil)
      (pss_cons (ps_setLc (i := 1) (own := [("one", 2)]) (g := gName 2) rfl sc_is_deed.nd rfl rfl (sw_true rfl rfl rfl (by decide +kernel)) (piT K (pe_slice (slA K) (pv 0) (po_some pe_int) po_none)) (blkOk_by (own := [("one", 2)]) (N := ["thing", "numbers", "one"]) (sc := (defScope s_is_deed)) (by decide +kernel)) (fun _ _ _ _ _ => pg_name (i := 2) sc_is_deed.nd rfl (Or.inl rfl)) (fun _ _ _ _ _ => pts_one (PW.pt (pw_and (pt_val (pe_callB (isi K) rfl T.b_isinstance (by decide +kernel) (pa_cons (pv 2) (pa_cons (pe_bltn (v := .ty "int") rfl T.b_int (by decide +kernel) rfl) pa_nil)))) (pw_and1 (pt_not (pt_val (pe_callB (isi K) rfl T.b_isinstance (by decide +kernel) (pa_cons (pv 2) (pa_cons (pe_bltn (v := .ty "bool") rfl T.b_bool (by decide +kernel) rfl) pa_nil))))))))) (fun _ _ _ _ _ => (pv 2)))
      (pss_one (ps_ret (pe_and (pe_cmpR op_eq (pe_callB (lenS K) rfl T.b_len PySem.boot_len (pa_cons (pv 1) pa_nil)) pe_int (nomark _)) (pe_and (pe_chain op_le op_le pe_int (pe_ix (ixT K) (pv 0) pe_int (fun _ _ => rfl)) pe_int) (pe_one (pe_chain op_le op_le pe_int (pe_ix (ixT K) (pv 0) pe_int (fun _ _ => rfl)) pe_int)))))))), ?_⟩
    cases hD with
    | none h =>
      obtain ⟨t, ty, kb⟩ := h H (Same.refl _)
      exact ⟨_, rfl, v, .ty "tuple", .type t, .type "tuple", false, rfl, .ty "tuple", ty, kit_ty kb, false, rfl, iteT (iteT (q _ (Same.refl _)))⟩
    | @len a xs h h3 =>
      refine ⟨_, rfl, .ref a, .ty "tuple", .type "tuple", .type "tuple", true, rfl, .ty "tuple", tyT h, kit_ty (by decide +kernel), true, rfl, iteF ?_⟩
      refine ⟨_, rfl, a, _, rfl, .inr h, rfl, true, ?_, iteT (iteT (q _ (Same.refl _)))⟩
      exact congrArg (fun z => V.bl (!z)) (decide_eq_false fun z => h3 (by injection z with z; omega))
    | @ride a x y h =>
      refine ⟨_, rfl, .ref a, .ty "tuple", .type "tuple", .type "tuple", true, rfl, .ty "tuple", tyT h, kit_ty (by decide +kernel), true, rfl, iteF ?_⟩
      refine ⟨_, rfl, a, _, rfl, .inr h, rfl, false, rfl, iteF ?_⟩
      refine ⟨_, rfl, a, _, 0, _, rfl, rfl, h, atI_nat (j := 0) rfl, .str "ride", .ty "str", .type "str", .type "str", true, rfl, .ty "str", .base (.str _), kit_ty (by decide +kernel), true, rfl, iteF ?_⟩
      exact ⟨_, rfl, a, _, 0, _, rfl, rfl, h, atI_nat (j := 0) rfl, _, _, _, _, rfl, rfl, S.t, S.no, true, rfl, iteT (q _ (Same.refl _))⟩
    | @kind a i' x y hi h fx fy =>
      refine if_no (fun H' => H' = H) (fun Q' q' => ?_) (fun H1 e1 => ?_)
      · refine ⟨_, rfl, .ref a, .ty "tuple", .type "tuple", .type "tuple", true, rfl, .ty "tuple", tyT h, kit_ty (by decide +kernel), true, rfl, iteF ?_⟩
        refine ⟨_, rfl, a, _, rfl, .inr h, rfl, false, rfl, iteF ?_⟩
        refine ⟨_, rfl, a, _, 0, _, rfl, rfl, h, atI_nat (j := 0) rfl, .str (kindS i'), .ty "str", .type "str", .type "str", true, rfl, .ty "str", .base (.str _), kit_ty (by decide +kernel), true, rfl, iteF ?_⟩
        obtain ⟨u, hu, _⟩ := S.at_ hi
        exact ⟨_, rfl, a, _, 0, _, rfl, rfl, h, atI_nat (j := 0) rfl, _, _, _, _, rfl, rfl, S.t, hu, false, rfl, q' _ rfl⟩
      subst e1
      refine ⟨_, rfl, _, rfl, ?_⟩
      dsimp only [tNoPart]
      refine slA_any h fun p H2 s2 hp => ⟨p, rfl, ⟨_, hp⟩, fun D hD => ?_⟩
      have hp : SqT K H2 p [x, y] := hp
      have fl : ∀ (j : Nat) (v : V), ([x, y] : List V)[j]? = some v → Flat v := fun j v e => by
        match j, e with
        | 0, e => cases e; exact fx
        | 1, e => cases e; exact fy
        | j + 2, e => simp at e
      refine lc_rel (walk_tup (xs := [x, y])) hD (by show 2 ≤ 1000; decide) (fun H' s => same_t s hp) (fun j => isIntV (([x, y] : List V).getD j .non) && !isBlV (([x, y] : List V).getD j .non)) (fun j v _ => v = ([x, y] : List V).getD j .non) (fun _ _ _ _ _ _ _ h => h) (fun j v H3 H4 l hj s3 hy yy => ?_) (fun ys H3 s3 hy hpp => ?_)
      · obtain ⟨rfl, hv⟩ := yy
        have ev : ([x, y] : List V).getD j .non = v := by rw [List.getD_eq_getElem?_getD, hv]; rfl
        refine ⟨Same.refl _, rfl, fun Q' q' => ?_, fun _ H5 _ Q' q' => ⟨_, rfl, q' _ _ (Same.refl _) ev.symm⟩⟩
        rw [ev] at q'
        obtain ⟨t, ty, k1, k2⟩ := flat_ty (K := K) (H := H4) (fl j v hv)
        refine ⟨_, rfl, v, .ty "int", .type t, .type "int", _, rfl, .ty "int", ty, kit_ty k1, _, rfl, ?_⟩
        have q2 := q' _ (Same.refl _)
        cases hi1 : isIntV v with
        | false => rw [hi1] at q2; exact iteF q2
        | true =>
          rw [hi1] at q2
          exact iteT ⟨_, rfl, v, .ty "bool", .type t, .type "bool", _, rfl, .ty "bool", ty, kit_ty k2, _, rfl, q2⟩
      · have s03 := s2.trans s3
        have h3 := same_t s03 h
        have e4 := paired_vals (g := fun j => ([x, y] : List V).getD j .non) (fun _ _ h => h) hpp
        have hlen : ys.length = ((List.range 2).filter fun j => isIntV (([x, y] : List V).getD j .non) && !isBlV (([x, y] : List V).getD j .non)).length := by rw [e4, List.length_map]; rfl
        dsimp only [gName]
        have both : (∃ i j : Int, x = .int i ∧ y = .int j ∧ ys.length = 2) ∨ (ys.length ≠ 2 ∧ (isWholeV x 0 5 && isWholeV y 0 99999) = false) := by
          rw [hlen]
          rcases fx with rfl | ⟨i1, rfl⟩ | ⟨b1, rfl⟩ | ⟨z1, rfl⟩
          · rcases fy with rfl | ⟨i2, rfl⟩ | ⟨b2, rfl⟩ | ⟨z2, rfl⟩ <;> exact .inr ⟨by intro z; simp [List.range, List.range.loop, isIntV, isBlV] at z, rfl⟩
          · rcases fy with rfl | ⟨i2, rfl⟩ | ⟨b2, rfl⟩ | ⟨z2, rfl⟩
            · exact .inr ⟨by intro z; simp [List.range, List.range.loop, isIntV, isBlV] at z, by show (_ && false) = false; rw [Bool.and_false]⟩
            · exact .inl ⟨i1, i2, rfl, rfl, rfl⟩
            · exact .inr ⟨by intro z; simp [List.range, List.range.loop, isIntV, isBlV] at z, by show (_ && false) = false; rw [Bool.and_false]⟩
            · exact .inr ⟨by intro z; simp [List.range, List.range.loop, isIntV, isBlV] at z, by show (_ && false) = false; rw [Bool.and_false]⟩
          · rcases fy with rfl | ⟨i2, rfl⟩ | ⟨b2, rfl⟩ | ⟨z2, rfl⟩ <;> exact .inr ⟨by intro z; simp [List.range, List.range.loop, isIntV, isBlV] at z, rfl⟩
          · rcases fy with rfl | ⟨i2, rfl⟩ | ⟨b2, rfl⟩ | ⟨z2, rfl⟩ <;> exact .inr ⟨by intro z; simp [List.range, List.range.loop, isIntV, isBlV] at z, rfl⟩
        refine ⟨_, rfl, D, _, rfl, .inl (sql hy), rfl, _, rfl, ?_⟩
        rcases both with ⟨i1, i2, rfl, rfl, h2⟩ | ⟨h2, hf⟩
        · rw [h2]
          refine iteT ?_
          have ch : ∀ {j : Nat} {i hi : Int} {Q' : VK}, ([V.str (kindS i'), .int i1, .int i2] : List V)[j]? = some (.int i) → Q' (.bl (isWholeV (.int i) 0 hi)) H3 → tChain (rI0 fun i j => .bl (decide (i ≤ j))) (rI0 fun i j => .bl (decide (i ≤ j))) (tC (.int 0)) (tOp (rIxT K) (tVar 0) (tC (.int ((j : Nat) : Int)))) (tC (.int hi)) [some (.ref a), some (.ref D), none] H3 Q' := fun {j i hi Q'} e qq => by
            refine ⟨_, rfl, a, _, _, _, rfl, rfl, h3, atI_nat e, _, _, rfl, rfl, _, rfl, ?_⟩
            by_cases h0 : 0 ≤ i
            · rw [decide_eq_true h0]
              refine iteT ⟨_, _, rfl, rfl, ?_⟩
              rw [show isWholeV (.int i) 0 hi = decide (i ≤ hi) from decide_eq_decide.mpr ⟨fun z => z.2, fun z => ⟨h0, z⟩⟩] at qq
              exact qq
            · rw [decide_eq_false h0]
              rw [show isWholeV (.int i) 0 hi = false from decide_eq_false fun z => h0 z.1] at qq
              exact iteF qq
          refine ch (j := 1) (i := i1) (hi := 5) rfl ⟨_, rfl, ?_⟩
          have q2 := q _ s03
          cases hb : isWholeV (.int i1) 0 5 with
          | false => rw [hb] at q2; exact iteF q2
          | true =>
            rw [hb] at q2
            exact iteT (ch (j := 2) (i := i2) (hi := 99999) rfl q2)
        · rw [show decide (V.int ((ys.length : Nat) : Int) = V.int 2) = false from decide_eq_false fun z => h2 (by injection z with z; omega)]
          refine iteF ?_
          have := q _ s03
          rw [hf] at this
          exact this
end
end Oa
namespace Oat
open PySem TL
theorem wordL_len {d : Nat × Nat × Nat} (h : DOk d) : (wordL d).length ≤ 7 := by
  have h1 : (numL d.2.1).length ≤ 1 := numL_len (by decide) (by have := h.2.1; omega)
  have h2 : (numL d.2.2).length ≤ 5 := numL_len (by decide) h.2.2
  unfold wordL
  rw [List.length_append, List.length_cons]
  omega
end Oat
namespace Oa
open PySem PySem.Spec PyProof.Rows L2 Oat TL
section
variable {P : Program} {w : World} {K : PySem.W.Frag} {mg : Str → Option Value} {base : Heap}
/-! ### plans, as they lie -/
def PlanT (K : PySem.W.Frag) (H : Hp) (pl : Addr) (ds : List (Nat × Nat × Nat)) : Prop := ∃ ts : List Addr, SqL K H pl (ts.map V.ref) ∧ Paired (fun t d => SqT K H t (deedT d)) ts ds
theorem PlanT.same {H H' : Hp} {pl : Addr} {ds : List (Nat × Nat × Nat)} (h : PlanT K H pl ds) (s : Same H H') : PlanT K H' pl ds := by
  obtain ⟨ts, h1, h2⟩ := h
  exact ⟨ts, same_l s h1, paired_imp h2 fun _ _ z => same_t s z⟩
theorem strs_map (ps : List (List Nat)) : (ps.map fun p => V.str (mkS p)) = (ps.map mkS).map V.str := by
  rw [List.map_map]
  rfl
theorem join_words {σ : L2.St} {H : Hp} {Q : VK} {te : TE} {ds : List (Nat × Nat × Nat)} (hd : ∀ d ∈ ds, DOk d) (hl : ds.length ≤ 1000)
    (h : ∀ Q' : VK, (∀ D H', Same H H' → H' D = some (.lst (ds.map fun d => V.str (mkS (wordL d)))) → Q' (.ref D) H') → te σ H Q') (q : ∀ H', Same H H' → Q (.str (mkS (planL ds))) H') : tM1 (rJoin K) (tC (.str " ")) te σ H Q := by
  refine ⟨⟨_, rfl⟩, h _ fun D H' s' hD => ?_⟩
  have e : (ds.map fun d => V.str (mkS (wordL d))) = ((ds.map wordL).map mkS).map V.str := by
    rw [List.map_map, List.map_map]
    rfl
  rw [e] at hD
  refine ⟨_, D, (ds.map wordL).map mkS, rfl, rfl, .inl (sql hD), ?_, ?_⟩
  · have hlen : ((ds.map wordL).map mkS).length = ds.length := by rw [List.length_map, List.length_map]
    have h1 : (((ds.map wordL).map mkS).map (·.length)).sum ≤ ((ds.map wordL).map mkS).length * 7 := by
      refine sum_le fun x hx => ?_
      obtain ⟨p, hp, rfl⟩ := List.mem_map.mp hx
      obtain ⟨d, hd', rfl⟩ := List.mem_map.mp hp
      rw [mkS_len]
      exact wordL_len (hd d hd')
    have h2 : (" " : Str).length = 1 := by decide +kernel
    rw [h2]
    omega
  · rw [s_blank, join_mkS]
    exact q H' s'
def sp_plan_text (K : PySem.W.Frag) : Sp := fun vs H Q E => ∃ v, vs = [v] ∧ ((∃ pl ds, v = .ref pl ∧ PlanT K H pl ds ∧ ds.length ≤ 1000 ∧ (∀ d ∈ ds, DOk d) ∧ ∀ H', Same H H' → Q (.str (mkS (planL ds))) H') ∨
  (((∃ t, TyX K H v (.type t) ∧ kitB t "list" = some false) ∨ ∃ pl u, v = .ref pl ∧ SqL K H pl [u] ∧ DeedV K H u false) ∧ ∀ H', Same H H' → E (.ref (He.ga K "BadText")) none H'))
theorem c_plan_text (T : Txt K mg) (R : Errs K mg) (S : Signs K w mg) : Cal P w K mg base (L2.CX P w) 2 "plan_text" ["plan"] (sp_plan_text K) := by
  refine calX T.d_plan_text sc_plan_text (fun _ _ _ _ _ _ us hl => match us, hl with | [_], _ => rfl) (fun vs H Q E h => ?_) (fun f cdv A outer s H vs Q E hr h => ?_)
  · obtain ⟨v, rfl, _⟩ := h
    rfl
  · obtain ⟨v, rfl, h⟩ := h
    refine ⟨_, (pss_cons (ps_if (PW.pt (pw_or (pt_not (pt_val (pe_callB (isi K) rfl T.b_isinstance (by decide +kernel) (pa_cons (pv 0) (pa_cons (pe_bltn (v := .ty "list") rfl T.b_list (by decide +kernel) rfl) pa_nil))))) (pw_or (pt_cmpR op_gt (pe_callB (lenS K) rfl T.b_len PySem.boot_len (pa_cons (pv 0) pa_nil)) (pe_glob (v := .int 20000) rfl T.i_MOST_DEEDS.choose_spec ⟨_, rfl⟩) (nomark _)) (pw_or1 (pt_not (pt_val (pe_callB (allL K rfl) rfl T.b_all (by decide +kernel) (pa_cons (pe_lc (own := [("one", 1)]) (g := gName 1) rfl sc_plan_text.nd (piL K (pv 0)) (blkOk_by (own := [("one", 1)]) (N := ["plan", "one"]) (sc := (defScope s_plan_text)) (by decide +kernel)) (fun _ _ _ _ _ => pg_name (i := 1) sc_plan_text.nd rfl (Or.inl rfl)) (fun _ _ _ _ _ => pts_nil) (fun _ _ _ _ _ => (pcall (c_is_deed T S) (hr.mono (by omega)) (pa_cons (pv 1) pa_nil)))) pa_nil)))))))) (pss_one (ps_raise rfl (takes_of rfl rfl rfl rfl) (pmkE R (by decide +kernel) (by decide +kernel) rfl))) pss_nil)
      (pss_one (ps_ret (pe_joinK K pe_str (pe_lc (own := [("one", 1)]) (g := gName 1) rfl sc_plan_text.nd (piL K (pv 0)) (blkOk_by (own := [("one", 1)]) (N := ["plan", "one"]) (sc := (defScope s_plan_text)) (by decide +kernel)) (fun _ _ _ _ _ => pg_name (i := 1) sc_plan_text.nd rfl (Or.inl rfl)) (fun _ _ _ _ _ => pts_nil) (fun _ _ _ _ _ => (pcall (c_deed_text T S) (hr.mono (by omega)) (pa_cons (pv 1) pa_nil)))))))), ?_⟩
    rcases h with ⟨pl, ds, rfl, hP, hl, hd, q⟩ | ⟨h, qe⟩
    · obtain ⟨ts, hts, hpp⟩ := id hP
      have hlen : ts.length = ds.length := Paired.length hpp
      refine if_no (fun H' => Same H H') (fun Q' q' => ?_) (fun H1 s1 => ?_)
      · refine ⟨_, rfl, .ref pl, .ty "list", .type "list", .type "list", true, rfl, .ty "list", tyL hts, kit_ty (by decide +kernel), true, rfl, iteF ?_⟩
        refine ⟨_, rfl, pl, _, rfl, .inl hts, _, _, rfl, rfl, false, congrArg V.bl (decide_eq_false (by rw [List.length_map]; omega)), iteF ?_⟩
        refine ⟨_, rfl, pl, rfl, ⟨_, hts⟩, fun D hD => ?_⟩
        refine lc_vals (walk_list (xs := ts.map V.ref)) hD (by rw [List.length_map]; omega) (fun H' s => same_l s hts) (fun _ => V.bl true) (fun i x H2 H3 hi s2 y => ?_) (fun H2 s2 hy => ?_)
        · obtain ⟨rfl, hx⟩ := y
          rw [List.getElem?_map] at hx
          obtain ⟨t, ht, rfl⟩ := Option.map_eq_some_iff.mp hx
          obtain ⟨d, hd1, hd2⟩ := paired_at2 hpp ht
          refine ⟨Same.refl _, rfl, fun H4 s4 Q2 q2 => ⟨_, rfl, .ref t, true, rfl, deedV_ok (same_t s4 hd2) (hd d (List.mem_of_getElem? hd1)), q2⟩⟩
        · refine ⟨D, List.replicate (ts.map V.ref).length true, rfl, sql (by rw [hy, List.map_replicate]; congr 1; exact congrArg HO.lst (List.ext_getElem? fun i => by
            rw [List.getElem?_map, List.getElem?_replicate]
            by_cases hi : i < (ts.map V.ref).length
            · rw [List.getElem?_range hi, if_pos hi]; rfl
            · rw [List.getElem?_eq_none (by rw [List.length_range]; omega), if_neg hi]; rfl)), ?_⟩
          have e : (List.replicate (ts.map V.ref).length true).all id = true := List.all_eq_true.mpr fun x hx => (List.mem_replicate.mp hx).2
          rw [e]
          exact ⟨true, rfl, q' _ s2⟩
      · refine join_words hd hl (fun Q' q' => ?_) (fun H2 s2 => q _ (s1.trans s2))
        have hts1 := same_l s1 hts
        refine ⟨_, rfl, pl, rfl, ⟨_, hts1⟩, fun D hD => ?_⟩
        refine lc_vals (walk_list (xs := ts.map V.ref)) hD (by rw [List.length_map]; omega) (fun H' s => same_l s hts1) (fun i => V.str (mkS (wordL (ds.getD i (0, 0, 0))))) (fun i x H2 H3 hi s2 y => ?_) (fun H2 s2 hy => ?_)
        · obtain ⟨rfl, hx⟩ := y
          rw [List.getElem?_map] at hx
          obtain ⟨t, ht, rfl⟩ := Option.map_eq_some_iff.mp hx
          obtain ⟨d, hd1, hd2⟩ := paired_at2 hpp ht
          have ed : ds.getD i (0, 0, 0) = d := by rw [List.getD_eq_getElem?_getD, hd1]; rfl
          refine ⟨Same.refl _, rfl, fun H4 s4 Q2 q2 => ⟨_, rfl, t, d, rfl, same_t (s1.trans s4) hd2, hd d (List.mem_of_getElem? hd1), ?_⟩⟩
          rw [ed] at q2
          exact q2 _ (Same.refl _)
        · refine q' D H2 s2 ?_
          rw [hy, List.length_map, hlen]
          have := congrArg (List.map fun d => V.str (mkS (wordL d))) (Oat.range_getD ds (0, 0, 0))
          rw [List.map_map] at this
          rw [← this]
          rfl
    · rcases h with ⟨t, ty, kb⟩ | ⟨pl, u, rfl, hl, hu⟩
      · exact ⟨_, rfl, v, .ty "list", .type t, .type "list", false, rfl, .ty "list", ty, kit_ty kb, false, rfl, iteT (iteT (qe _ (Same.refl _)))⟩
      · refine ⟨_, rfl, .ref pl, .ty "list", .type "list", .type "list", true, rfl, .ty "list", tyL hl, kit_ty (by decide +kernel), true, rfl, iteF ?_⟩
        refine ⟨_, rfl, pl, _, rfl, .inl hl, _, _, rfl, rfl, false, rfl, iteF ?_⟩
        refine ⟨_, rfl, pl, rfl, ⟨_, hl⟩, fun D hD => ?_⟩
        refine lc_vals (walk_list (xs := [u])) hD (by show 1 ≤ 1000; decide) (fun H' s => same_l s hl) (fun _ => V.bl false) (fun i x H2 H3 hi s2 y => ?_) (fun H2 s2 hy => ?_)
        · obtain ⟨rfl, hx⟩ := y
          have hi : i < 1 := hi
          obtain rfl : i = 0 := by omega
          cases hx
          exact ⟨Same.refl _, rfl, fun H4 s4 Q2 q2 => ⟨_, rfl, u, false, rfl, hu.same s4, q2⟩⟩
        · exact ⟨D, [false], rfl, sql hy, false, rfl, iteT (qe _ s2)⟩
/-! ### _law_words -/
def sp_lwords (K : PySem.W.Frag) : Sp := fun vs H Q _ => ∃ pl ds, vs = [.ref pl] ∧ PlanT K H pl ds ∧ ds.length ≤ 1000 ∧ (∀ d ∈ ds, DOk d) ∧ ∀ H', Same H H' → Q (.str (mkS (planL ds))) H'
def signK : List (Key × V) := [(.inr "go", .str ">"), (.inr "take", .str "+"), (.inr "lay", .str "-")]
theorem signK_at {i : Nat} (h : i < 3) : valV signK (.inr (kindS i)) = some (.str (mkS [kindC i])) := by
  match i, h with
  | 0, _ => decide +kernel
  | 1, _ => decide +kernel
  | 2, _ => decide +kernel
theorem c__law_words (T : Txt K mg) : Cal P w K mg base CX0 1 "_law_words" ["deeds"] (sp_lwords K) := by
  refine cal0 T.d__law_words sc__law_words (fun _ _ _ _ _ _ us hl => match us, hl with | [_], _ => rfl) (fun vs H Q E h => ?_) (fun f cdv A outer s H vs Q E hr h => ?_)
  · obtain ⟨pl, ds, rfl, _⟩ := h
    rfl
  · obtain ⟨pl, ds, rfl, hP, hl, hd, q⟩ := h
    refine ⟨_, (pss_cons (ps_set (i := 1) sc__law_words.nd rfl (Or.inr rfl) (pe_disp (pps_cons pe_str pe_str (pps_cons pe_str pe_str (pps_cons pe_str pe_str pps_nil))) rfl rfl (fun z => by cases z) (by decide)))
      (pss_one (ps_ret (pe_joinK K pe_str (pe_lc (own := [("word", 2), ("cart", 3), ("thing", 4)]) (g := gTup K 3 (gCons (gName 2) (gCons (gName 3) (gCons (gName 4) gNil)))) rfl sc__law_words.nd (piL K (pv 0)) (blkOk_by (own := [("word", 2), ("cart", 3), ("thing", 4)]) (N := ["deeds", "signs", "word", "cart", "thing"]) (sc := (defScope s__law_words)) (by decide +kernel)) (fun _ _ _ _ _ => pgTupK K rfl (pgs_cons (pg_name (i := 2) sc__law_words.nd rfl (Or.inl rfl)) (pgs_cons (pg_name (i := 3) sc__law_words.nd rfl (Or.inl rfl)) (pgs_cons (pg_name (i := 4) sc__law_words.nd rfl (Or.inl rfl)) pgs_nil)))) (fun _ _ _ _ _ => pts_nil) (fun _ _ _ _ _ => (pe_op op_add_str (pe_op op_add_str (pe_callTy call_str_int rfl T.b_str (by decide +kernel) (pa_cons (pv 3) pa_nil)) (pe_dget (hu_of hr) (pv 1) (pv 2) (fun _ _ => rfl))) (pe_callTy call_str_int rfl T.b_str (by decide +kernel) (pa_cons (pv 4) pa_nil))))))))), ?_⟩
    refine fun sg nsg => ⟨upd_same, signK, rfl, by decide, ?_⟩
    have e0 : upd (upd H sg (.dK [])) sg (.dK (mergeK [] signK)) = upd H sg (.dK signK) := by
      funext b
      by_cases hb : b = sg
      · rw [hb, upd_same, upd_same]
        rfl
      · rw [upd_ne hb, upd_ne hb, upd_ne hb]
    rw [e0]
    have s1 := same_new (o := .dK signK) nsg
    have hsg : (upd H sg (.dK signK)) sg = some (.dK signK) := upd_same
    generalize upd H sg (.dK signK) = H1 at s1 hsg
    have hP1 := hP.same s1
    obtain ⟨ts, hts, hpp⟩ := id hP1
    have hlen : ts.length = ds.length := Paired.length hpp
    dsimp only [gName]
    show tRet _ _ [some (.ref pl), some (.ref sg), none, none, none] H1
    refine join_words hd hl (fun Q' q' => ?_) (fun H2 s2 => q _ (s1.trans s2))
    refine ⟨_, rfl, pl, rfl, ⟨_, hts⟩, fun D hD => ?_⟩
    refine lc_it (walk_list (xs := ts.map V.ref)) (g := gTup K 3 (gCons (gName 2) (gCons (gName 3) (gCons (gName 4) gNil)))) (fun i H9 => Same H1 H9 ∧ H9 D = some (.lst ((ds.take i).map fun d => V.str (mkS (wordL d))))) ⟨same_new hD, upd_same⟩ (fun i H9 _ p => same_l p.1 hts) (fun i x H9 H10 hi p y => ?_) (fun H9 p => ?_)
    · obtain ⟨s9, hD9⟩ := p
      obtain ⟨rfl, hx⟩ := y
      rw [List.getElem?_map] at hx
      obtain ⟨t, ht, rfl⟩ := Option.map_eq_some_iff.mp hx
      obtain ⟨d, hd1, hd2⟩ := paired_at2 hpp ht
      have hdk := hd d (List.mem_of_getElem? hd1)
      obtain ⟨l1, l2⟩ := word_len hdk
      have h6 := hdk.2.1
      have h5 := hdk.2.2
      refine ⟨t, _, rfl, same_t s9 hd2, rfl, _, _, rfl, _, _, rfl, _, _, rfl, rfl, rfl, ?_⟩
      unfold tYes
      dsimp only
      rw [if_pos rfl]
      have hg : DGet H10 sg (.str (kindS d.1)) (some (.str (mkS [kindC d.1]))) := by
        have := DGet.k (k := .inr (kindS d.1)) (s9 _ _ hsg)
        rw [signK_at hdk.1] at this
        exact this
      refine ⟨_, rfl, _, rfl, log_small (by omega), _, rfl, _, rfl, sg, _, rfl, hg, _, _, rfl, rfl, ?_, ?_⟩
      · rw [str_num, mkS_len, mkS_len]
        exact size100 (by show _ + 1 ≤ 100; omega)
      refine ⟨_, rfl, _, rfl, log_small (by omega), _, _, rfl, rfl, ?_, ?_⟩
      · rw [str_num, str_num, mkS_app, mkS_len, mkS_len, List.length_append]
        exact size100 (by show _ + 1 + _ ≤ 100; omega)
      rw [str_num, str_num, mkS_app, mkS_app]
      refine ⟨_, hD9, ?_, same_mut s9 hD, ?_⟩
      · rw [List.length_map, List.length_take]
        exact Nat.lt_of_le_of_lt (show _ ≤ 1000 by omega) (small1000 (Nat.le_refl _))
      · rw [upd_same, List.take_add_one, hd1, List.map_append]
        have e : numL d.2.1 ++ [kindC d.1] ++ numL d.2.2 = wordL d := by
          unfold wordL
          rw [List.append_assoc]
          rfl
        rw [e]
        rfl
    · obtain ⟨s9, hD9⟩ := p
      rw [List.take_of_length_le (by rw [List.length_map, hlen]; exact Nat.le_refl _)] at hD9
      exact q' D H9 s9 hD9
end
end Oa
namespace Oat
open PySem TL
theorem mapO_snoc {α β : Type} {f : α → Option β} : ∀ {xs : List α} {ys : List β} {x : α} {y : β}, mapO f xs = some ys → f x = some y → mapO f (xs ++ [x]) = some (ys ++ [y]) := by
  intro xs
  induction xs with
  | nil =>
    intro ys x y h1 h2
    cases h1
    show mapO f [x] = _
    unfold mapO
    rw [h2]
    rfl
  | cons z xs ih =>
    intro ys x y h1 h2
    rw [List.cons_append]
    unfold mapO at h1 ⊢
    cases e : f z with
    | none => rw [e] at h1; cases h1
    | some u =>
      rw [e] at h1
      dsimp only at h1 ⊢
      cases e2 : mapO f xs with
      | none => rw [e2] at h1; cases h1
      | some us =>
        rw [e2] at h1
        cases h1
        rw [ih e2 h2]
        rfl
theorem mapO_bad {α β : Type} {f : α → Option β} : ∀ {xs : List α} {x : α} (ys : List α), f x = none → mapO f (xs ++ x :: ys) = none := by
  intro xs
  induction xs with
  | nil =>
    intro x ys h
    show mapO f (x :: ys) = none
    unfold mapO
    rw [h]
  | cons z xs ih =>
    intro x ys h
    rw [List.cons_append]
    unfold mapO
    cases e : f z with
    | none => rfl
    | some u =>
      dsimp only
      rw [ih ys h]
end Oat
namespace Oa
open PySem PySem.Spec PyProof.Rows L2 Oat TL
theorem cut_s12 (l : List Nat) : cutS (mkS l) (some 1) (some 2) = mkS ((l.drop 1).take 1) := by
  unfold cutS
  have e1 : HT.sIx (mkS l).length 0 (some 1) = min 1 l.length := by
    have := HT.sIx_nat (n := (mkS l).length) (d := 0) 1
    rw [mkS_len] at this ⊢
    exact this
  have e2 : HT.sIx (mkS l).length (mkS l).length (some 2) = min 2 l.length := by
    have := HT.sIx_nat (n := (mkS l).length) (d := (mkS l).length) 2
    rw [mkS_len] at this ⊢
    exact this
  rw [e1, e2]
  show mkS ((l.drop (min 1 l.length)).take (min 2 l.length - min 1 l.length)) = _
  congr 1
  match l with
  | [] => rfl
  | [_] => rfl
  | a :: b :: r =>
    have : min 1 (a :: b :: r).length = 1 := by rw [List.length_cons, List.length_cons]; omega
    have h2 : min 2 (a :: b :: r).length = 2 := by rw [List.length_cons, List.length_cons]; omega
    rw [this, h2]
theorem cut_s2 (l : List Nat) : cutS (mkS l) (some 2) none = mkS (l.drop 2) := by
  unfold cutS
  have e1 : HT.sIx (mkS l).length 0 (some 2) = min 2 l.length := by
    have := HT.sIx_nat (n := (mkS l).length) (d := 0) 2
    rw [mkS_len] at this ⊢
    exact this
  have e2 : HT.sIx (mkS l).length (mkS l).length none = l.length := by rw [HT.sIx_none, mkS_len]
  rw [e1, e2]
  show mkS ((l.drop (min 2 l.length)).take (l.length - min 2 l.length)) = _
  congr 1
  rw [List.take_of_length_le (by rw [List.length_drop]; exact Nat.le_refl _)]
  by_cases h : 2 ≤ l.length
  · rw [Nat.min_eq_left h]
  · rw [Nat.min_eq_right (by omega), List.drop_of_length_le (Nat.le_refl _), List.drop_of_length_le (by omega)]
theorem six_mem (c : Nat) : decide (c ∈ ("012345" : Str).cps.toList) = decide (48 ≤ c ∧ c ≤ 53) := by
  have e : ("012345" : Str).cps.toList = [48, 49, 50, 51, 52, 53] := by decide +kernel
  rw [e]
  refine decide_eq_decide.mpr ?_
  simp only [List.mem_cons, List.not_mem_nil, or_false]
  omega
section
variable {P : Program} {w : World} {K : PySem.W.Frag} {mg : Str → Option Value} {base : Heap}
/-! ### plan_read -/
def sp_plan_read (K : PySem.W.Frag) : Sp := fun vs H Q E => ∃ v, vs = [v] ∧ ((∃ l : List Nat, v = .str (mkS l) ∧ l.length ≤ 900 ∧ (∀ ds, planF l = some ds → ∀ pl H', Same H H' → H pl = none → PlanT K H' pl ds → Q (.ref pl) H') ∧ (planF l = none → ∀ H', Same H H' → E (.ref (He.ga K "BadText")) none H')) ∨
  ((∃ t, TyX K H v (.type t) ∧ kitB t "str" = some false) ∧ ∀ H', Same H H' → E (.ref (He.ga K "BadText")) none H'))
theorem c_plan_read (T : Txt K mg) (R : Errs K mg) (S : Signs K w mg) : Cal P w K mg base (L2.CX P w) 3 "plan_read" ["text"] (sp_plan_read K) := by
  refine calX T.d_plan_read sc_plan_read (fun _ _ _ _ _ _ us hl => match us, hl with | [_], _ => rfl) (fun vs H Q E h => ?_) (fun f cdv A outer s H vs Q E hr h => ?_)
  · obtain ⟨v, rfl, _⟩ := h
    rfl
  · obtain ⟨v, rfl, h⟩ := h
    refine ⟨_, (pss_cons (ps_if (pt_not (pt_val (pe_callB (isi K) rfl T.b_isinstance (by decide +kernel) (pa_cons (pv 0) (pa_cons (pe_bltn (v := .ty "str") rfl T.b_str (by decide +kernel) rfl) pa_nil))))) (pss_one (ps_raise rfl (takes_of rfl rfl rfl rfl) (pmkE R (by decide +kernel) (by decide +kernel) rfl))) pss_nil)
      (pss_cons (ps_set (i := 1) sc_plan_read.nd rfl (Or.inl rfl) (pe_ifExp (pt_cmpR op_ne (pv 0) pe_str (nomark _)) (pe_split (pv 0) pe_str) (pe_lst pa_nil)))
      (pss_cons (ps_if (pt_cmpR op_gt (pe_callB (lenS K) rfl T.b_len PySem.boot_len (pa_cons (pv 1) pa_nil)) (pe_glob (v := .int 20000) rfl T.i_MOST_DEEDS.choose_spec ⟨_, rfl⟩) (nomark _)) (pss_one (ps_raise rfl (takes_of rfl rfl rfl rfl) (pmkE R (by decide +kernel) (by decide +kernel) rfl))) pss_nil)
      (pss_cons (ps_set (i := 2) sc_plan_read.nd rfl (Or.inl rfl) (pe_lst pa_nil))
      (pss_cons (ps_for (passes_of rfl) rfl (piL K (pv 1)) (pg_name (i := 3) sc_plan_read.nd rfl (Or.inr rfl)) (pss_cons (ps_setLc (i := 4) (own := [("kind", 5)]) (g := gName 5) rfl sc_plan_read.nd rfl rfl (sw_true rfl rfl rfl (by decide +kernel)) (pi_kd K w (pe_glob (v := .ref (He.ga K "SIGNS")) rfl S.g rfl)) (blkOk_by (own := [("kind", 5)]) (N := ["text", "words", "found", "word", "kinds", "kind"]) (sc := (defScope s_plan_read)) (by decide +kernel)) (fun _ _ _ _ _ => pg_name (i := 5) sc_plan_read.nd rfl (Or.inl rfl)) (fun _ _ _ _ _ => pts_one (pt_cmpR op_eq (pe_ix (ixKD K w) (pe_glob (v := .ref (He.ga K "SIGNS")) rfl S.g rfl) (pv 5) (fun _ _ => rfl)) (pe_slice sl_str (pv 3) (po_some pe_int) (po_some pe_int)) (nomark _))) (fun _ _ _ _ _ => (pv 5)))
      (pss_cons (ps_if (PW.pt (pw_or (pt_cmpR (op_eqLE K hr.units0) (pv 4) (pe_lst pa_nil) (nomark _)) (pw_or1 (pt_cmpR op_notIn_sign (pe_ix ix_str (pv 3) pe_int (fun _ _ => rfl)) pe_str rfl)))) (pss_one (ps_raise rfl (takes_of rfl rfl rfl rfl) (pmkE R (by decide +kernel) (by decide +kernel) rfl))) pss_nil)
      (pss_one (ps_expr (pe_bm PySem.F.plainAttrs_list PySem.F.slot_list_append PySem.F.type_list_append mt_append (pv 2) (pa_cons (pe_tup (pa_cons (pe_ix (ixL K) (pv 4) pe_int (fun _ _ => rfl)) (pa_cons (pe_callTy call_int_str rfl T.b_int (by decide +kernel) (pa_cons (pe_ix ix_str (pv 3) pe_int (fun _ _ => rfl)) pa_nil)) (pa_cons (pcallS (c_number_in T R S) (hr.mono (by omega)) (passAt (takes_of rfl rfl rfl rfl)) (pa_cons (pe_slice sl_str (pv 3) (po_some pe_int) po_none) pa_nil)) pa_nil)))) pa_nil)))))))
      (pss_one (ps_ret (pv 2)))))))), ?_⟩
    rcases h with ⟨l, rfl, hl, q, qe⟩ | ⟨⟨t, ty, kb⟩, qe⟩
    · refine ⟨_, rfl, .str (mkS l), .ty "str", .type "str", .type "str", true, rfl, .ty "str", .base (.str _), kit_ty (by decide +kernel), true, rfl, iteF ?_⟩
      -- the words
      obtain ⟨ps, hps⟩ : ∃ ps, ps = (if l = [] then [] else spl [32] 0 [] l) := ⟨_, rfl⟩
      have hF : planF l = mapO wordF ps := by
        rw [hps]
        unfold planF
        split <;> rfl
      have hlen : ps.length ≤ 901 := by
        rw [hps]
        split
        · exact Nat.zero_le _
        · have := spl_len 32 l []
          omega
      have hpl : ∀ p ∈ ps, p.length ≤ 900 := fun p hp => by
        rw [hps] at hp
        split at hp
        · cases hp
        · have := spl_part_len 32 l [] p hp
          simp only [List.length_nil] at this
          omega
      dsimp only [tNext]
      refine asg_any (fun v H' => ∃ wl, v = .ref wl ∧ Same H H' ∧ H wl = none ∧ H' wl = some (.lst ((ps.map mkS).map V.str))) (fun Q' q' => ?_) (fun v H1 hv => ?_)
      · refine ⟨_, rfl, rfl, _, rfl, ?_⟩
        by_cases h0 : l = []
        · rw [show decide (V.str (mkS l) = V.str (Str.ofString "")) = true from decide_eq_true (by rw [h0]; rfl)]
          refine iteF ⟨Nat.zero_le _, fun wl nwl => q' _ _ ⟨wl, rfl, same_new nwl, nwl, ?_⟩⟩
          rw [upd_same, hps, if_pos h0]
          rfl
        · rw [show decide (V.str (mkS l) = V.str (Str.ofString "")) = false from decide_eq_false (fun z => h0 (mkS_inj (by injection z)))]
          refine iteT ⟨_, rfl, ⟨_, rfl⟩, _, _, rfl, rfl, by decide +kernel, by rw [mkS_len]; exact size1e4 (by omega), fun wl nwl => q' _ _ ⟨wl, rfl, same_new nwl, nwl, ?_⟩⟩
          rw [upd_same, hps, if_neg h0, s_blank, split_mkS 32 (by decide)]
      obtain ⟨wl, rfl, s1, nwl, hwl⟩ := hv
      dsimp only [gName]
      show tSeq (tIfS _ _ _) _ _ [some (.str (mkS l)), some (.ref wl), none, none, none, none] H1
      refine ⟨_, rfl, wl, _, rfl, .inl (sql hwl), _, _, rfl, rfl, false, congrArg V.bl (decide_eq_false (by rw [List.length_map, List.length_map]; omega)), iteF ?_⟩
      refine ⟨Nat.zero_le _, fun fl nfl => ?_⟩
      have s2 := same_new (o := .lst []) nfl
      have nfl0 : H fl = none := s1.free nfl
      dsimp only [gName]
      refine ⟨_, rfl, wl, rfl, ⟨_, sql (s2 _ _ hwl)⟩, ?_⟩
      have lenP : ((ps.map mkS).map V.str).length = ps.length := by rw [List.length_map, List.length_map]
      refine for_it (walk_list (xs := (ps.map mkS).map V.str)) (fun i σ H' => ∃ z3 z4 z5 ts ds, σ = [some (.str (mkS l)), some (.ref wl), some (.ref fl), z3, z4, z5] ∧ Same H H' ∧ H' wl = some (.lst ((ps.map mkS).map V.str)) ∧ H' fl = some (.lst (ts.map V.ref)) ∧ Paired (fun t d => SqT K H' t (deedT d)) ts ds ∧ mapO wordF (ps.take i) = some ds ∧ ts.length ≤ i)
        ⟨none, none, none, [], [], rfl, s1.trans s2, s2 _ _ hwl, upd_same, .nil, rfl, Nat.le_refl _⟩ (fun i σ H' _ p => ?_) (fun i v σ H3 H4 hi p y => ?_) (fun σ H3 p => ?_)
      · obtain ⟨_, _, _, _, _, _, _, hw', _⟩ := p
        exact sql hw'
      · obtain ⟨z3, z4, z5, ts, ds, rfl, s3, hw3, hf3, hpp, hm, hti⟩ := p
        obtain ⟨rfl, hx⟩ := y
        rw [List.getElem?_map, List.getElem?_map] at hx
        obtain ⟨ws, hws, rfl⟩ := Option.map_eq_some_iff.mp hx
        obtain ⟨p, hp, rfl⟩ := Option.map_eq_some_iff.mp hws
        have hpl1 := hpl p (List.mem_of_getElem? hp)
        have bad : wordF p = none → ∀ {H' : Hp}, Same H H' → E (.ref (He.ga K "BadText")) none H' := fun hn {H'} s' => by
          refine qe ?_ _ s'
          rw [hF]
          have hsplit : ps = ps.take i ++ p :: ps.drop (i + 1) := by
            have hi' : i < ps.length := (List.getElem?_eq_some_iff.mp hp).1
            have e1 := (List.getElem?_eq_some_iff.mp hp).2
            rw [← e1]
            exact (List.take_append_drop i ps).symm.trans (by rw [List.drop_eq_getElem_cons hi'])
          rw [hsplit]
          exact mapO_bad _ hn
        dsimp only
        show tSeq _ _ _ [some (.str (mkS l)), some (.ref wl), some (.ref fl), some (.str (mkS p)), z4, z5] H4
        -- kinds
        refine ⟨_, _, rfl, S.t, fun D hD => ?_⟩
        refine lc_rel walk_kd hD (by show 3 ≤ 1000; decide) (fun _ _ => trivial) (fun i => decide ([kindC i] = (p.drop 1).take 1)) (fun i v _ => v = .str (kindS i)) (fun _ _ _ _ _ _ _ h => h) (fun k x H5 H6 lx hk s5 hy yy => ?_) (fun ys H5 s5 hy hpk => ?_)
        · obtain ⟨rfl, kk, hkk, rfl⟩ := yy
          have hk : k < 3 := hk
          have ek : kk = kindS k := by
            match k, hk, hkk with
            | 0, _, h => cases h; rfl
            | 1, _, h => cases h; rfl
            | 2, _, h => cases h; rfl
          subst ek
          refine ⟨Same.refl _, rfl, fun Q' q' => ?_, fun _ H7 _ Q' q' => ⟨_, rfl, q' _ _ (Same.refl _) rfl⟩⟩
          refine ⟨_, rfl, _, _, _, rfl, rfl, S.kd hk, _, rfl, _, rfl, _, rfl, mkS p, rfl, by rw [mkS_len]; exact size1e4 (by omega), rfl, _, rfl, ?_⟩
          rw [cut_s12, show decide (V.str (mkS [kindC k]) = V.str (mkS ((p.drop 1).take 1))) = decide ([kindC k] = (p.drop 1).take 1) from decide_eq_decide.mpr ⟨fun z => mkS_inj (by injection z), fun z => by rw [z]⟩]
          exact q' _ (Same.refl _)
        · have e4 := paired_vals (g := fun k => V.str (kindS k)) (fun _ _ h => h) hpk
          have s35 := s3.trans s5
          have hw5 := s5 _ _ hw3
          have hf5 := s5 _ _ hf3
          dsimp only [gName]
          show tSeq (tIfS _ _ _) _ _ [some (.str (mkS l)), some (.ref wl), some (.ref fl), some (.str (mkS p)), some (.ref D), z5] H5
          match p, hp, hpl1, bad, e4 with
          | [], hp, hpl1, bad, e4 =>
            have e5 : ys = [] := e4
            rw [e5] at hy
            refine ⟨_, rfl, Nat.zero_le _, fun l0 n0 => ?_⟩
            have s6 := same_new (o := .lst []) n0
            exact ⟨D, l0, [], rfl, rfl, sql (s6 _ _ hy), sql upd_same, true, rfl, iteT (iteT (bad rfl (s35.trans s6)))⟩
          | [c], hp, hpl1, bad, e4 =>
            have e5 : ys = [] := e4
            rw [e5] at hy
            refine ⟨_, rfl, Nat.zero_le _, fun l0 n0 => ?_⟩
            have s6 := same_new (o := .lst []) n0
            exact ⟨D, l0, [], rfl, rfl, sql (s6 _ _ hy), sql upd_same, true, rfl, iteT (iteT (bad rfl (s35.trans s6)))⟩
          | c :: sg :: r, hp, hpl1, bad, e4 =>
            have e5 : ys = ((List.range 3).filter fun k => decide ([kindC k] = [sg])).map fun k => V.str (kindS k) := e4
            refine ⟨_, rfl, Nat.zero_le _, fun l0 n0 => ?_⟩
            have s6 := same_new (o := .lst []) n0
            cases hk : kindI sg with
            | none =>
              have e6 : ((List.range 3).filter fun k => decide ([kindC k] = [sg])) = [] := by
                refine List.filter_eq_nil_iff.mpr fun k hk3 => ?_
                have hk3 := List.mem_range.mp hk3
                intro z
                have z := List.cons.inj (of_decide_eq_true z) |>.1
                rw [← z, kindI_C hk3] at hk
                cases hk
              rw [e5, e6] at hy
              refine ⟨D, l0, [], rfl, rfl, sql (s6 _ _ hy), sql upd_same, true, rfl, iteT (iteT (bad ?_ (s35.trans s6)))⟩
              show (match kindI sg with | none => none | some i => _) = none
              rw [hk]
            | some k =>
              obtain ⟨ek, hk3⟩ := kindC_I hk
              have e6 : ((List.range 3).filter fun j => decide ([kindC j] = [sg])) = [k] := by
                rw [ek]
                match k, hk3 with
                | 0, _ => decide +kernel
                | 1, _ => decide +kernel
                | 2, _ => decide +kernel
              rw [e5, e6] at hy
              have hy : H5 D = some (.lst [.str (kindS k)]) := hy
              refine ⟨D, l0, _, rfl, rfl, sql (s6 _ _ hy), sql upd_same, false, rfl, iteF ?_⟩
              refine ⟨_, rfl, mkS (c :: sg :: r), _, c, rfl, rfl, by rw [mkS_len]; exact size1e4 (by omega), atI_nat (j := 0) rfl, c, _, rfl, rfl, _, rfl, ?_⟩
              rw [six_mem]
              have hwF : wordF (c :: sg :: r) = (if 48 ≤ c ∧ c ≤ 53 then (match numF r with | none => none | some n => some (k, c - 48, n)) else none) := by
                show (match kindI sg with | none => none | some i => if 48 ≤ c ∧ c ≤ 53 then (match numF r with | none => none | some n => some (i, c - 48, n)) else none) = _
                rw [hk]
              by_cases hc : 48 ≤ c ∧ c ≤ 53
              · rw [decide_eq_true hc]
                refine iteF ?_
                rw [if_pos hc] at hwF
                have s7 := s35.trans s6
                have hf6 := s6 _ _ hf5
                refine ⟨_, rfl, .inl ⟨rfl, _, sql hf6⟩, ?_⟩
                have hin : PySem.intText? (mkS [c]) = some (((c - 48 : Nat) : Nat) : Int) := by
                  have := intText_digits (x := mkS [c]) (fun x hx => by rw [List.mem_singleton.mp hx]; omega) (by show [c] ≠ []; simp) (by rw [mkS_len]; show 1 ≤ 4300; decide)
                  rw [this]
                  show some (((0 * 10 + (c - 48) : Nat)) : Int) = _
                  rw [Nat.zero_mul, Nat.zero_add]
                refine ⟨_, rfl, D, _, _, _, rfl, rfl, sql (s6 _ _ hy), atI_nat (j := 0) rfl, ?_⟩
                refine ⟨_, rfl, mkS (c :: sg :: r), _, c, rfl, rfl, by rw [mkS_len]; exact size1e4 (by omega), atI_nat (j := 0) rfl, mkS [c], _, rfl, hin, by rw [mkS_len]; show 1 ≤ 640; decide, ?_⟩
                refine ⟨_, rfl, _, rfl, ?_⟩
                dsimp only [tNoPart]
                refine ⟨mkS (c :: sg :: r), rfl, by rw [mkS_len]; exact size1e4 (by omega), ?_⟩
                rw [cut_s2]
                refine ⟨r, rfl, by simp only [List.length_cons] at hpl1; omega, fun n hn H8 s8 => ?_, fun hn H8 s8 => bad ?_ (s7.trans s8)⟩
                · rw [hn] at hwF
                  dsimp only at hwF
                  refine ⟨by show 3 ≤ sizeLine; decide, fun t nt => ?_⟩
                  have s9 := same_new (o := .tup [.str (kindS k), .int ((c - 48 : Nat) : Int), .int ((n : Nat) : Int)]) nt
                  have s79 := s6.trans (s8.trans s9)
                  have ht : SqT K _ t (deedT (k, c - 48, n)) := sqt (upd_same (H := H8) (a := t) (o := .tup [.str (kindS k), .int ((c - 48 : Nat) : Int), .int ((n : Nat) : Int)]))
                  generalize upd H8 t (.tup [.str (kindS k), .int ((c - 48 : Nat) : Int), .int ((n : Nat) : Int)]) = H9 at s9 s79 ht
                  have hf9 := (s8.trans s9) _ _ hf6
                  have hw9 := s79 _ _ hw5
                  have s39 := s35.trans s79
                  have hpp9 : Paired (fun t d => SqT K H9 t (deedT d)) ts ds := paired_imp hpp fun _ _ z => same_t (s5.trans s79) z
                  refine ⟨fl, _, _, rfl, rfl, hf9, ?_, ?_⟩
                  · rw [List.length_map]
                    exact Nat.lt_of_le_of_lt (show ts.length ≤ 1000 by omega) (small1000 (Nat.le_refl _))
                  have sb : SameBut fl H9 (upd H9 fl (.lst (ts.map V.ref ++ [.ref t]))) := fun y o h e => by rw [upd_ne h]; exact e
                  have wne : wl ≠ fl := fun z => by
                    have := s1.free nfl
                    rw [← z] at nfl
                    rw [hwl] at nfl
                    cases nfl
                  refine ⟨_, _, _, ts ++ [t], ds ++ [(k, c - 48, n)], rfl, same_mut s39 nfl0, by rw [upd_ne wne]; exact hw9, by rw [upd_same, List.map_append]; rfl, ?_, ?_, by rw [List.length_append]; show _ + 1 ≤ _; omega⟩
                  · have up : ∀ {a : Addr} {xs : List V}, SqT K H9 a xs → SqT K (upd H9 fl (.lst (ts.map V.ref ++ [.ref t]))) a xs := fun {a xs} h => by
                      rcases h with (e | ⟨o, e⟩) | e
                      · exact .inl (.inl (sb _ _ (ne_of e hf9 (fun z => nomatch z)) e))
                      · exact .inl (.inr ⟨o, sb _ _ (ne_of e hf9 (fun z => nomatch z)) e⟩)
                      · exact .inr e
                    exact paired_snoc (paired_imp hpp9 fun _ _ z => up z) (up ht)
                  · rw [List.take_add_one, hp]
                    exact mapO_snoc hm hwF
                · rw [hn] at hwF
                  exact hwF
              · rw [decide_eq_false hc]
                refine iteT (bad ?_ (s35.trans s6))
                rw [hwF, if_neg hc]
      · obtain ⟨z3, z4, z5, ts, ds, rfl, s3, hw3, hf3, hpp, hm, hti⟩ := p
        rw [lenP, List.take_length] at hm
        exact ⟨_, rfl, q ds (by rw [hF]; exact hm) fl _ s3 nfl0 ⟨ts, sql hf3, hpp⟩⟩
    · exact ⟨_, rfl, v, .ty "str", .type t, .type "str", false, rfl, .ty "str", ty, kit_ty kb, false, rfl, iteT (qe _ (Same.refl _))⟩
end
end Oa
namespace Oa
open PySem PySem.Spec PyProof.Rows L2 Oat TL
def readF (l : List Nat) : Option (List (Option Nat) × List (Option Nat)) := match cellsF l with
  | none => none
  | some (A, W) => if (landB (some (wantsV A)) && wantsB A.length (some (wantsV W))) = true then some (A, W) else none
theorem flat_wants (W : List (Option Nat)) : (wantsV W).all flatV = true := by
  refine List.all_eq_true.mpr fun x hx => ?_
  obtain ⟨o, _, rfl⟩ := List.mem_map.mp hx
  cases o <;> rfl
/-- all cells told -/
theorem cells_of {f : List (List Nat) → Option (Option Nat)} {rs : List (List (List Nat))} {ys : List V} (h : Paired (fun (i : Nat) v => ∃ o, f (rs.getD i []) = some o ∧ v = optV o) (List.range rs.length) ys) : ∃ A, mapO f rs = some A ∧ ys = wantsV A := by
  have key : ∀ {rs : List (List (List Nat))} {is : List Nat} {ys : List V}, Paired (fun (i : Nat) (r : List (List Nat)) => True ∧ True) is rs → True := fun _ => trivial
  have gen : ∀ {is : List Nat} {ys : List V}, Paired (fun (i : Nat) v => ∃ o, f (rs.getD i []) = some o ∧ v = optV o) is ys → ∃ A, mapO f (is.map fun i => rs.getD i []) = some A ∧ ys = wantsV A := by
    intro is ys hp
    induction hp with
    | nil => exact ⟨[], rfl, rfl⟩
    | cons a b ih =>
      obtain ⟨o, h1, rfl⟩ := a
      obtain ⟨A, h2, rfl⟩ := ih
      refine ⟨o :: A, ?_, rfl⟩
      rw [List.map_cons]
      unfold mapO
      rw [h1, h2]
  have := gen h
  rw [Oat.range_getD rs []] at this
  exact this
section
variable {P : Program} {w : World} {K : PySem.W.Frag} {mg : Str → Option Value} {base : Heap}
def RowsT (K : PySem.W.Frag) (H : Hp) (rl : Addr) (rs : List (List (List Nat))) : Prop := ∃ as : List Addr, SqL K H rl (as.map V.ref) ∧ Paired (fun a r => SqL K H a ((r.map mkS).map V.str)) as rs
theorem RowsT.same {H H' : Hp} {rl : Addr} {rs : List (List (List Nat))} (h : RowsT K H rl rs) (s : Same H H') : RowsT K H' rl rs := by
  obtain ⟨as, h1, h2⟩ := h
  exact ⟨as, same_l s h1, paired_imp h2 fun _ _ z => same_l s z⟩
theorem RowsT.at_ {H : Hp} {rl : Addr} {rs : List (List (List Nat))} (h : RowsT K H rl rs) : ∃ xs, SqL K H rl xs ∧ xs.length = rs.length ∧ ∀ (i : Nat) (x : V), xs[i]? = some x → ∃ a, x = .ref a ∧ ∀ H', Same H H' → SqL K H' a (((rs.getD i []).map mkS).map V.str) := by
  obtain ⟨as, h1, h2⟩ := h
  refine ⟨_, h1, by rw [List.length_map, Paired.length h2], fun i x hx => ?_⟩
  rw [List.getElem?_map] at hx
  obtain ⟨a, ha, rfl⟩ := Option.map_eq_some_iff.mp hx
  obtain ⟨r, hr1, hr2⟩ := paired_at2 h2 ha
  refine ⟨a, rfl, fun H' s => ?_⟩
  rw [List.getD_eq_getElem?_getD, hr1]
  exact same_l s hr2
/-- one cell of a row -/
theorem cell_num {E : XK} {σ : L2.St} {H : Hp} {Q : VK} {a : Addr} {r : List (List Nat)} {k c : Nat} {s : Str} (hσ : σ[5]? = some (some (.ref a))) (hr : SqL K H a ((r.map mkS).map V.str)) (h2 : r.length = 2) (hk : k < 2) (hl : ∀ p ∈ r, p.length ≤ 900) (hs : s = mkS [c])
    (q : ∀ o, cellF c (r.getD k []) = some o → ∀ H', Same H H' → Q (optV o) H') (qe : cellF c (r.getD k []) = none → ∀ H', Same H H' → E (.ref (He.ga K "BadText")) none H') :
    tIf (tTest (tOp rEq (tOp (rIxL K) (tVar 5) (tC (.int ((k : Nat) : Int)))) (tC (.str s)))) (tC .non) (tCallS (sp_number K) (fun _ => E) (tCons (tOp (rIxL K) (tVar 5) (tC (.int ((k : Nat) : Int)))) tNil)) σ H Q := by
  have hkr : r[k]? = some (r.getD k []) := by rw [List.getD_eq_getElem?_getD, List.getElem?_eq_getElem (by omega)]; rfl
  have hV : ((r.map mkS).map V.str)[k]? = some (.str (mkS (r.getD k []))) := by rw [List.getElem?_map, List.getElem?_map, hkr]; rfl
  refine ⟨_, hσ, a, _, _, _, rfl, rfl, hr, atI_nat hV, rfl, _, rfl, ?_⟩
  rw [hs]
  by_cases hc : r.getD k [] = [c]
  · rw [decide_eq_true (by rw [hc])]
    exact iteT (q none (by unfold cellF; rw [if_pos hc]) _ (Same.refl _))
  · rw [decide_eq_false (fun z => hc (mkS_inj (by injection z)))]
    refine iteF ⟨_, hσ, a, _, _, _, rfl, rfl, hr, atI_nat hV, r.getD k [], rfl, ?_, fun n hn H' s' => ?_, fun hn H' s' => ?_⟩
    · have := hl _ (List.mem_of_getElem? hkr)
      omega
    · exact q (some n) (by unfold cellF; rw [if_neg hc, hn]) _ s'
    · exact qe (by unfold cellF; rw [if_neg hc, hn]) _ s'
def sp_land_read (K : PySem.W.Frag) : Sp := fun vs H Q E => ∃ v, vs = [v] ∧ ((∃ l : List Nat, v = .str (mkS l) ∧ l.length ≤ 900 ∧ (∀ A W, readF l = some (A, W) → ∀ t a d H', Same H H' → SqT K H' t [.ref a, .ref d] → SqT K H' a (wantsV A) → SqT K H' d (wantsV W) → Q (.ref t) H') ∧ (readF l = none → ∀ H', Same H H' → E (.ref (He.ga K "BadText")) none H')) ∨
  ((∃ t, TyX K H v (.type t) ∧ kitB t "str" = some false) ∧ ∀ H', Same H H' → E (.ref (He.ga K "BadText")) none H'))
theorem c_land_read (T : Txt K mg) (R : Errs K mg) (S : Signs K w mg) : Cal P w K mg base (L2.CX P w) 3 "land_read" ["text"] (sp_land_read K) := by
  refine calX T.d_land_read sc_land_read (fun _ _ _ _ _ _ us hl => match us, hl with | [_], _ => rfl) (fun vs H Q E h => ?_) (fun f cdv A outer s H vs Q E hr h => ?_)
  · obtain ⟨v, rfl, _⟩ := h
    rfl
  · obtain ⟨v, rfl, h⟩ := h
    refine ⟨_, (pss_cons (ps_if (pt_not (pt_val (pe_callB (isi K) rfl T.b_isinstance (by decide +kernel) (pa_cons (pv 0) (pa_cons (pe_bltn (v := .ty "str") rfl T.b_str (by decide +kernel) rfl) pa_nil))))) (pss_one (ps_raise rfl (takes_of rfl rfl rfl rfl) (pmkE R (by decide +kernel) (by decide +kernel) rfl))) pss_nil)
      (pss_cons (ps_setLc (i := 1) (own := [("line", 4)]) (g := gName 4) rfl sc_land_read.nd rfl rfl (sw_true rfl rfl rfl (by decide +kernel)) (piL K (pe_split (pv 0) pe_str)) (blkOk_by (own := [("line", 4)]) (N := ["text", "rows", "land", "wants", "line", "row"]) (sc := (defScope s_land_read)) (by decide +kernel)) (fun _ _ _ _ _ => pg_name (i := 4) sc_land_read.nd rfl (Or.inl rfl)) (fun _ _ _ _ _ => pts_nil) (fun _ _ _ _ _ => (pe_split (pv 4) pe_str)))
      (pss_cons (ps_if (PW.pt (pw_or (pt_not (pt_chain op_le op_le pe_int (pe_callB (lenS K) rfl T.b_len PySem.boot_len (pa_cons (pv 1) pa_nil)) (pe_glob (v := .int 30) rfl T.i_MOST_PLACES.choose_spec ⟨_, rfl⟩))) (pw_or1 (pt_val (pe_callB (anyL K rfl) rfl T.b_any (by decide +kernel) (pa_cons (pe_lc (own := [("row", 5)]) (g := gName 5) rfl sc_land_read.nd (piL K (pv 1)) (blkOk_by (own := [("row", 5)]) (N := ["text", "rows", "land", "wants", "line", "row"]) (sc := (defScope s_land_read)) (by decide +kernel)) (fun _ _ _ _ _ => pg_name (i := 5) sc_land_read.nd rfl (Or.inl rfl)) (fun _ _ _ _ _ => pts_nil) (fun _ _ _ _ _ => (pe_cmpR op_ne (pe_callB (lenS K) rfl T.b_len PySem.boot_len (pa_cons (pv 5) pa_nil)) pe_int (nomark _)))) pa_nil)))))) (pss_one (ps_raise rfl (takes_of rfl rfl rfl rfl) (pmkE R (by decide +kernel) (by decide +kernel) rfl))) pss_nil)
      (pss_cons (ps_set (i := 2) sc_land_read.nd rfl (Or.inl rfl) (pe_callTy (tupOf K) rfl T.b_tuple (by decide +kernel) (pa_cons (pe_lcX E (own := [("row", 5)]) (g := gName 5) rfl rfl (takes_of rfl rfl rfl rfl) rfl sc_land_read.nd (piL K (pv 1)) (blkOk_by (own := [("row", 5)]) (N := ["text", "rows", "land", "wants", "line", "row"]) (sc := (defScope s_land_read)) (by decide +kernel)) (fun _ _ _ _ _ => pg_name (i := 5) sc_land_read.nd rfl (Or.inl rfl)) (fun _ _ _ _ _ => (pe_ifExp (pt_cmpR op_eq (pe_ix (ixL K) (pv 5) pe_int (fun _ _ => rfl)) pe_str (nomark _)) pe_non (pcallS (E := fun _ => E) (c_number_in T R S) (hr.mono (by omega)) (fun _ => passX) (pa_cons (pe_ix (ixL K) (pv 5) pe_int (fun _ _ => rfl)) pa_nil))))) pa_nil)))
      (pss_cons (ps_set (i := 3) sc_land_read.nd rfl (Or.inl rfl) (pe_callTy (tupOf K) rfl T.b_tuple (by decide +kernel) (pa_cons (pe_lcX E (own := [("row", 5)]) (g := gName 5) rfl rfl (takes_of rfl rfl rfl rfl) rfl sc_land_read.nd (piL K (pv 1)) (blkOk_by (own := [("row", 5)]) (N := ["text", "rows", "land", "wants", "line", "row"]) (sc := (defScope s_land_read)) (by decide +kernel)) (fun _ _ _ _ _ => pg_name (i := 5) sc_land_read.nd rfl (Or.inl rfl)) (fun _ _ _ _ _ => (pe_ifExp (pt_cmpR op_eq (pe_ix (ixL K) (pv 5) pe_int (fun _ _ => rfl)) pe_str (nomark _)) pe_non (pcallS (E := fun _ => E) (c_number_in T R S) (hr.mono (by omega)) (fun _ => passX) (pa_cons (pe_ix (ixL K) (pv 5) pe_int (fun _ _ => rfl)) pa_nil))))) pa_nil)))
      (pss_cons (ps_if (PW.pt (pw_or (pt_not (pt_val (pcall (c_is_landG T) (hr.mono (by omega)) (pa_cons (pv 2) pa_nil)))) (pw_or1 (pt_not (pt_val (pcall (c_is_wantsG T) (hr.mono (by omega)) (pa_cons (pv 2) (pa_cons (pv 3) pa_nil)))))))) (pss_one (ps_raise rfl (takes_of rfl rfl rfl rfl) (pmkE R (by decide +kernel) (by decide +kernel) rfl))) pss_nil)
      (pss_one (ps_ret (pe_tup (pa_cons (pv 2) (pa_cons (pv 3) pa_nil))))))))))), ?_⟩
    rcases h with ⟨l, rfl, hl, q, qe⟩ | ⟨⟨t, ty, kb⟩, qe⟩
    · refine ⟨_, rfl, .str (mkS l), .ty "str", .type "str", .type "str", true, rfl, .ty "str", .base (.str _), kit_ty (by decide +kernel), true, rfl, iteF ?_⟩
      have hps : (spl [10] 0 [] l).length ≤ 901 := by
        have := spl_len 10 l []
        omega
      have hpl : ∀ p ∈ spl [10] 0 [] l, p.length ≤ 900 := fun p hp => by
        have := spl_part_len 10 l [] p hp
        simp only [List.length_nil] at this
        omega
      have hn1 : 1 ≤ (spl [10] 0 [] l).length := by
        cases e : spl [10] 0 [] l with
        | nil => exact absurd e (spl_ne 10 l [])
        | cons _ _ => exact Nat.succ_le_succ (Nat.zero_le _)
      have hrl : (rowsF l).length = (spl [10] 0 [] l).length := by unfold rowsF; rw [List.length_map]
      have hrp : ∀ r ∈ rowsF l, ∀ p ∈ r, p.length ≤ 900 := fun r hr p hp => by
        unfold rowsF at hr
        obtain ⟨z, hz, rfl⟩ := List.mem_map.mp hr
        have h1 := spl_part_len 58 z [] p hp
        have h2 := hpl z hz
        simp only [List.length_nil] at h1
        omega
      have bad : cellsF l = none → ∀ {H' : Hp}, Same H H' → E (.ref (He.ga K "BadText")) none H' := fun hn {H'} s' => qe (by unfold readF; rw [hn]) _ s'
      -- the rows
      dsimp only [tNext]
      refine asg_any (fun v H' => ∃ rl, v = .ref rl ∧ Same H H' ∧ RowsT K H' rl (rowsF l)) (fun Q' q' => ?_) (fun v H1 hv => ?_)
      · refine ⟨_, rfl, ⟨_, rfl⟩, _, _, rfl, rfl, by decide +kernel, by rw [mkS_len]; exact size1e4 (by omega), fun sl nsl => ?_⟩
        have s1 := same_new (o := .lst ((Txt.split (mkS l) "\n").map V.str)) nsl
        have hsl : (upd H sl (.lst ((Txt.split (mkS l) "\n").map V.str))) sl = some (.lst (((spl [10] 0 [] l).map mkS).map V.str)) := by rw [upd_same, s_nl, split_mkS 10 (by decide)]
        generalize upd H sl (.lst ((Txt.split (mkS l) "\n").map V.str)) = H1 at s1 hsl
        refine ⟨sl, rfl, ⟨_, sql hsl⟩, fun D hD => ?_⟩
        refine lc_rel (walk_list (xs := ((spl [10] 0 [] l).map mkS).map V.str)) hD (by rw [List.length_map, List.length_map]; omega) (fun H' s => sql (s _ _ hsl)) (fun _ => true) (fun i v H' => ∃ r, v = .ref r ∧ r ≠ D ∧ H' r = some (.lst ((((rowsF l).getD i []).map mkS).map V.str))) (fun i v Ha Hb lx _ sb h => ?_) (fun i x H2 H3 lx hi s2 hy y => ?_) (fun ys H2 s2 hy hp => ?_)
        · obtain ⟨r, e, hne, hr⟩ := h
          exact ⟨r, e, hne, sb _ _ hne hr⟩
        · obtain ⟨rfl, hx⟩ := y
          rw [List.getElem?_map, List.getElem?_map] at hx
          obtain ⟨ws, hws, rfl⟩ := Option.map_eq_some_iff.mp hx
          obtain ⟨p, hp, rfl⟩ := Option.map_eq_some_iff.mp hws
          have hpl1 := hpl p (List.mem_of_getElem? hp)
          have er : (rowsF l).getD i [] = spl [58] 0 [] p := by unfold rowsF; rw [List.getD_eq_getElem?_getD, List.getElem?_map, hp]; rfl
          refine ⟨Same.refl _, rfl, fun Q2 q2 => q2 H3 (Same.refl _), fun _ H4 s4 Q2 q2 => ?_⟩
          refine ⟨_, rfl, ⟨_, rfl⟩, _, _, rfl, rfl, by decide +kernel, by rw [mkS_len]; exact size1e4 (by omega), fun r nr => ?_⟩
          refine q2 _ _ (same_new nr) ⟨r, rfl, fun z => ?_, ?_⟩
          · rw [z, s4 _ _ hy] at nr
            cases nr
          · rw [upd_same, s_colon, split_mkS 58 (by decide), er]
        · refine q' _ _ ⟨D, rfl, s1.trans s2, ?_⟩
          rw [List.length_map, List.length_map, show (List.range (spl [10] 0 [] l).length).filter (fun _ => true) = List.range (rowsF l).length by rw [hrl]; simp] at hp
          have gen : ∀ {is : List Nat} {ys : List V}, Paired (fun i v => ∃ r, v = .ref r ∧ r ≠ D ∧ H2 r = some (.lst ((((rowsF l).getD i []).map mkS).map V.str))) is ys → ∃ as : List Addr, ys = as.map V.ref ∧ Paired (fun a r => SqL K H2 a ((r.map mkS).map V.str)) as (is.map fun i => (rowsF l).getD i []) := by
            intro is ys hp
            induction hp with
            | nil => exact ⟨[], rfl, .nil⟩
            | cons a b ih =>
              obtain ⟨r, rfl, _, hr⟩ := a
              obtain ⟨as, rfl, ih⟩ := ih
              exact ⟨r :: as, rfl, .cons (sql hr) ih⟩
          obtain ⟨as, rfl, hpp⟩ := gen hp
          rw [Oat.range_getD (rowsF l) []] at hpp
          exact ⟨as, sql hy, hpp⟩
      obtain ⟨rl, rfl, s1, hR⟩ := hv
      dsimp only [gName]
      show tSeq (tIfS _ _ _) _ _ [some (.str (mkS l)), some (.ref rl), none, none, none, none] H1
      obtain ⟨xs, hxs, hxl, hxa⟩ := hR.at_
      -- no rows
      by_cases h30 : (rowsF l).length ≤ 30
      · by_cases hall : ((rowsF l).all fun r => decide (r.length = 2)) = true
        · have two : ∀ i, i < (rowsF l).length → ((rowsF l).getD i []).length = 2 := fun i hi => by
            have hm : (rowsF l).getD i [] ∈ rowsF l := by
              rw [List.getD_eq_getElem?_getD, List.getElem?_eq_getElem hi]
              exact List.getElem_mem hi
            exact of_decide_eq_true (List.all_eq_true.mp hall _ hm)
          have mem : ∀ i, i < (rowsF l).length → (rowsF l).getD i [] ∈ rowsF l := fun i hi => by
            rw [List.getD_eq_getElem?_getD, List.getElem?_eq_getElem hi]
            exact List.getElem_mem hi
          refine if_no (fun H' => Same H1 H') (fun Q' q' => ?_) (fun H2 s2 => ?_)
          · refine ⟨_, rfl, rl, _, rfl, .inl hxs, _, _, rfl, rfl, true, congrArg V.bl (decide_eq_true (by rw [hxl, hrl]; omega)), iteT ⟨_, _, rfl, rfl, true, congrArg V.bl (decide_eq_true (by rw [hxl]; omega)), iteF ?_⟩⟩
            refine ⟨_, rfl, rl, rfl, ⟨_, hxs⟩, fun D hD => ?_⟩
            refine lc_vals (walk_list (xs := xs)) hD (by omega) (fun H' s => same_l s hxs) (fun _ => V.bl false) (fun i x H2 H3 hi s2 y => ?_) (fun H2 s2 hy => ?_)
            · obtain ⟨rfl, hx⟩ := y
              obtain ⟨a, rfl, ha⟩ := hxa i x hx
              refine ⟨Same.refl _, rfl, fun H4 s4 Q2 q2 => ⟨_, rfl, a, _, rfl, .inl (ha _ s4), rfl, ?_⟩⟩
              rw [List.length_map, List.length_map, two i (by omega)]
              exact q2 _ (Same.refl _)
            · refine ⟨D, List.replicate xs.length false, rfl, sql (by rw [hy, List.map_replicate]; congr 1; exact congrArg HO.lst (List.ext_getElem? fun i => by
                rw [List.getElem?_map, List.getElem?_replicate]
                by_cases hi : i < xs.length
                · rw [List.getElem?_range hi, if_pos hi]; rfl
                · rw [List.getElem?_eq_none (by rw [List.length_range]; omega), if_neg hi]; rfl)), ?_⟩
              have e : (List.replicate xs.length false).any id = false := by
                rw [List.any_eq_false]
                intro x hx
                rw [(List.mem_replicate.mp hx).2]
                exact Bool.false_ne_true
              rw [e]
              exact ⟨false, rfl, q' _ s2⟩
          have s02 := s1.trans s2
          have hxs2 := same_l s2 hxs
          -- the land
          refine ⟨_, rfl, rl, rfl, ⟨_, hxs2⟩, fun D hD => ?_⟩
          refine lc_rel (walk_list (xs := xs)) hD (by omega) (fun H' s => same_l s hxs2) (fun _ => true) (fun i v _ => ∃ o, cellF 45 (List.getD ((rowsF l).getD i []) 0 []) = some o ∧ v = optV o) (fun _ _ _ _ _ _ _ h => h) (fun i x H3 H4 lx hi s3 hy y => ?_) (fun ys H3 s3 hy hp => ?_)
          · obtain ⟨rfl, hx⟩ := y
            obtain ⟨a, rfl, ha⟩ := hxa i x hx
            refine ⟨Same.refl _, rfl, fun Q2 q2 => q2 _ (Same.refl _), fun _ H5 s5 Q2 q2 => ?_⟩
            refine cell_num (k := 0) rfl (ha _ (s2.trans (s3.trans s5))) (two i (by omega)) (by decide) (hrp _ (mem i (by omega))) s_minus (fun o ho H' s' => q2 _ _ s' ⟨o, ho, rfl⟩) (fun ho H' s' => bad ?_ (s02.trans (s3.trans (s5.trans s'))))
            cases hc : cellsF l with
            | none => rfl
            | some AW =>
              unfold cellsF at hc
              rw [if_pos (by rw [hall, decide_eq_true h30]; rfl)] at hc
              cases hm : mapO (fun r => cellF 45 (List.getD r 0 [])) (rowsF l) with
              | none => rw [hm] at hc; cases hc
              | some A0 =>
                exfalso
                have hsp : rowsF l = (rowsF l).take i ++ (rowsF l).getD i [] :: (rowsF l).drop (i + 1) := by
                  have hi' : i < (rowsF l).length := by omega
                  rw [List.getD_eq_getElem?_getD, List.getElem?_eq_getElem hi']
                  exact (List.take_append_drop i (rowsF l)).symm.trans (by rw [List.drop_eq_getElem_cons hi']; rfl)
                rw [hsp, mapO_bad (f := fun r => cellF 45 (List.getD r 0 [])) _ ho] at hm
                cases hm
          rw [show (List.range xs.length).filter (fun _ => true) = List.range (rowsF l).length by rw [hxl]; simp] at hp
          obtain ⟨A0, hA0, rfl⟩ := cells_of (f := fun r => cellF 45 (List.getD r 0 [])) hp
          have lenA : A0.length = (rowsF l).length := by
            have h1 := Paired.length hp
            rw [List.length_range, wantsV_len] at h1
            exact h1.symm
          refine ⟨D, _, rfl, .inl ⟨sql hy, fun la nla => ?_⟩⟩
          have s4 := s3.trans (same_new (o := .tup (wantsV A0)) nla)
          have hla : (upd H3 la (.tup (wantsV A0))) la = some (.tup (wantsV A0)) := upd_same
          generalize upd H3 la (.tup (wantsV A0)) = H4 at s4 hla
          dsimp only [gName]
          show tSeq (tAsg _ _) _ _ [some (.str (mkS l)), some (.ref rl), some (.ref la), none, none, none] H4
          have hxs4 := same_l s4 hxs2
          clear hp hy hD
          -- the wants
          refine ⟨_, rfl, rl, rfl, ⟨_, hxs4⟩, fun D hD => ?_⟩
          refine lc_rel (walk_list (xs := xs)) hD (by omega) (fun H' s => same_l s hxs4) (fun _ => true) (fun i v _ => ∃ o, cellF 46 (List.getD ((rowsF l).getD i []) 1 []) = some o ∧ v = optV o) (fun _ _ _ _ _ _ _ h => h) (fun i x H5 H6 lx hi s5 hy y => ?_) (fun ys H5 s5 hy hp => ?_)
          · obtain ⟨rfl, hx⟩ := y
            obtain ⟨a, rfl, ha⟩ := hxa i x hx
            refine ⟨Same.refl _, rfl, fun Q2 q2 => q2 _ (Same.refl _), fun _ H7 s7 Q2 q2 => ?_⟩
            refine cell_num (k := 1) rfl (ha _ (s2.trans (s4.trans (s5.trans s7)))) (two i (by omega)) (by decide) (hrp _ (mem i (by omega))) s_dot (fun o ho H' s' => q2 _ _ s' ⟨o, ho, rfl⟩) (fun ho H' s' => bad ?_ (s02.trans (s4.trans (s5.trans (s7.trans s')))))
            cases hc : cellsF l with
            | none => rfl
            | some AW =>
              unfold cellsF at hc
              rw [if_pos (by rw [hall, decide_eq_true h30]; rfl), hA0] at hc
              dsimp only at hc
              cases hm : mapO (fun r => cellF 46 (List.getD r 1 [])) (rowsF l) with
              | none => rw [hm] at hc; cases hc
              | some A1 =>
                exfalso
                have hsp : rowsF l = (rowsF l).take i ++ (rowsF l).getD i [] :: (rowsF l).drop (i + 1) := by
                  have hi' : i < (rowsF l).length := by omega
                  rw [List.getD_eq_getElem?_getD, List.getElem?_eq_getElem hi']
                  exact (List.take_append_drop i (rowsF l)).symm.trans (by rw [List.drop_eq_getElem_cons hi']; rfl)
                rw [hsp, mapO_bad (f := fun r => cellF 46 (List.getD r 1 [])) _ ho] at hm
                cases hm
          rw [show (List.range xs.length).filter (fun _ => true) = List.range (rowsF l).length by rw [hxl]; simp] at hp
          obtain ⟨W0, hW0, rfl⟩ := cells_of (f := fun r => cellF 46 (List.getD r 1 [])) hp
          have lenW : W0.length = (rowsF l).length := by
            have h1 := Paired.length hp
            rw [List.length_range, wantsV_len] at h1
            exact h1.symm
          have hcells : cellsF l = some (A0, W0) := by
            unfold cellsF
            rw [if_pos (by rw [hall, decide_eq_true h30]; rfl), hA0]
            dsimp only
            rw [hW0]
          refine ⟨D, _, rfl, .inl ⟨sql hy, fun wa nwa => ?_⟩⟩
          have s6 := s5.trans (same_new (o := .tup (wantsV W0)) nwa)
          have hwa : (upd H5 wa (.tup (wantsV W0))) wa = some (.tup (wantsV W0)) := upd_same
          generalize upd H5 wa (.tup (wantsV W0)) = H6 at s6 hwa
          have hla6 := s6 _ _ hla
          have s06 := s02.trans (s4.trans s6)
          dsimp only [gName]
          show tSeq (tIfS _ _ _) _ _ [some (.str (mkS l)), some (.ref rl), some (.ref la), some (.ref wa), none, none] H6
          have hsA : (wantsV A0).length ≤ 100 := by rw [wantsV_len]; omega
          have hsW : (wantsV W0).length ≤ 100 := by rw [wantsV_len]; omega
          refine ⟨_, rfl, .ref la, some (wantsV A0), rfl, (fun H' s' => ths_tup (sqt hla6) hsA (flat_wants A0) H' s'), fun H7 s7 => ⟨_, rfl, ?_⟩⟩
          cases hB : landB (some (wantsV A0)) with
          | false =>
            refine iteT (iteT (qe ?_ _ (s06.trans s7)))
            unfold readF
            rw [hcells]
            dsimp only
            rw [hB]
            rfl
          | true =>
            refine iteF ⟨_, rfl, _, rfl, la, wantsV A0, .ref wa, some (wantsV W0), rfl, sqt (s7 _ _ hla6), (fun H' s' => ths_tup (sqt (s7 _ _ hwa)) hsW (flat_wants W0) H' s'), fun H8 s8 => ⟨_, rfl, ?_⟩⟩
            rw [wantsV_len]
            have hla8 := s8 _ _ (s7 _ _ hla6)
            have hwa8 := s8 _ _ (s7 _ _ hwa)
            have s08 := s06.trans (s7.trans s8)
            cases hB2 : wantsB A0.length (some (wantsV W0)) with
            | false =>
              refine iteT (qe ?_ _ s08)
              unfold readF
              rw [hcells]
              dsimp only
              rw [hB, hB2]
              rfl
            | true =>
              refine iteF ⟨_, rfl, _, rfl, by show 2 ≤ sizeLine; decide, fun t nt => ?_⟩
              have s9 := same_new (o := .tup [.ref la, .ref wa]) nt
              refine q A0 W0 ?_ t la wa _ (s08.trans s9) (sqt upd_same) (sqt (s9 _ _ hla8)) (sqt (s9 _ _ hwa8))
              unfold readF
              rw [hcells]
              dsimp only
              rw [hB, hB2]
              rfl
        · -- a row that is none
          have hF : cellsF l = none := by
            unfold cellsF
            rw [if_neg (fun z => hall (Bool.and_eq_true_iff.mp z).2)]
          refine ⟨_, rfl, rl, _, rfl, .inl hxs, _, _, rfl, rfl, true, congrArg V.bl (decide_eq_true (by rw [hxl, hrl]; omega)), iteT ⟨_, _, rfl, rfl, true, congrArg V.bl (decide_eq_true (by rw [hxl]; omega)), iteF ?_⟩⟩
          refine ⟨_, rfl, rl, rfl, ⟨_, hxs⟩, fun D hD => ?_⟩
          refine lc_vals (walk_list (xs := xs)) hD (by omega) (fun H' s => same_l s hxs) (fun i => V.bl (!decide (((rowsF l).getD i []).length = 2))) (fun i x H2 H3 hi s2 y => ?_) (fun H2 s2 hy => ?_)
          · obtain ⟨rfl, hx⟩ := y
            obtain ⟨a, rfl, ha⟩ := hxa i x hx
            refine ⟨Same.refl _, rfl, fun H4 s4 Q2 q2 => ⟨_, rfl, a, _, rfl, .inl (ha _ s4), rfl, ?_⟩⟩
            rw [List.length_map, List.length_map, show decide (V.int ((((rowsF l).getD i []).length : Nat) : Int) = V.int 2) = decide (((rowsF l).getD i []).length = 2) from decide_eq_decide.mpr ⟨fun z => by injection z with z; omega, fun z => by rw [z]; rfl⟩]
            exact q2 _ (Same.refl _)
          · have e2 : (List.range xs.length).map (fun i => !decide (((rowsF l).getD i []).length = 2)) = (rowsF l).map fun r => !decide (r.length = 2) := by
              rw [hxl]
              have := congrArg (List.map fun r : List (List Nat) => !decide (r.length = 2)) (Oat.range_getD (rowsF l) [])
              rw [List.map_map] at this
              exact this
            refine ⟨D, (rowsF l).map fun r => !decide (r.length = 2), rfl, sql (by rw [hy, ← e2, List.map_map]; rfl), ?_⟩
            have e : ((rowsF l).map fun r => !decide (r.length = 2)).any id = true := by
              rw [List.any_map]
              have h3 : ((rowsF l).all fun r => decide (r.length = 2)) = false := Bool.eq_false_iff.mpr hall
              obtain ⟨r, h4, h5⟩ := List.all_eq_false.mp h3
              exact List.any_eq_true.mpr ⟨r, h4, by simpa using h5⟩
            rw [e]
            exact ⟨true, rfl, iteT (bad hF (s1.trans s2))⟩
      · have hF : cellsF l = none := by
          unfold cellsF
          rw [if_neg (fun z => h30 (of_decide_eq_true (Bool.and_eq_true_iff.mp z).1))]
        exact ⟨_, rfl, rl, _, rfl, .inl hxs, _, _, rfl, rfl, true, congrArg V.bl (decide_eq_true (by rw [hxl, hrl]; omega)), iteT ⟨_, _, rfl, rfl, false, congrArg V.bl (decide_eq_false (by rw [hxl]; omega)), iteT (iteT (bad hF s1))⟩⟩
    · exact ⟨_, rfl, v, .ty "str", .type t, .type "str", false, rfl, .ty "str", ty, kit_ty kb, false, rfl, iteT (qe _ (Same.refl _))⟩
end
end Oa
namespace Oa
open PySem PySem.Spec PyProof.Rows L2 Oat TL
theorem eT : ("BadText" : Str) ∈ errN := by decide +kernel
theorem eL : ("BadLand" : Str) ∈ errN := by decide +kernel
theorem eN : ("BadWants" : Str) ∈ errN := by decide +kernel
theorem e_text : errW "BadText" = "text" := by decide +kernel
theorem e_land : errW "BadLand" = "land" := by decide +kernel
theorem e_wants : errW "BadWants" = "wants" := by decide +kernel
section
variable {P : Program} {w : World} {K : PySem.W.Frag} {mg : Str → Option Value} {base : Heap}
/-! ### _law_read -/
def NoStr (K : PySem.W.Frag) (v : V) : Prop := ∀ H, ∃ t, TyX K H v (.type t) ∧ kitB t "str" = some false
def sp_law_read (K : PySem.W.Frag) : Sp := fun vs H Q _ => ∃ (k : Nat) (v : V), vs = [.int ((k : Nat) : Int), v] ∧ ((NoStr K v ∧ ∀ H', Same H H' → Q (.str "text") H') ∨ ∃ l, v = .str (mkS l) ∧ l.length ≤ 900 ∧
  ((k = 0 ∧ (∀ A W, readF l = some (A, W) → ∀ t a d H', Same H H' → SqT K H' t [.ref a, .ref d] → SqT K H' a (wantsV A) → SqT K H' d (wantsV W) → Q (.ref t) H') ∧ (readF l = none → ∀ H', Same H H' → Q (.str "text") H')) ∨
   (k = 1 ∧ (∀ ds, planF l = some ds → ∀ pl H', Same H H' → PlanT K H' pl ds → Q (.ref pl) H') ∧ (planF l = none → ∀ H', Same H H' → Q (.str "text") H'))))
theorem c__law_read (T : Txt K mg) (R : Errs K mg) (S : Signs K w mg) : Cal P w K mg base CX0 4 "_law_read" ["sort_of", "text"] (sp_law_read K) := by
  refine cal0 T.d__law_read sc__law_read (fun _ _ _ _ _ _ us hl => match us, hl with | [_, _], _ => rfl) (fun vs H Q E h => ?_) (fun f cdv A' outer s H vs Q E hr h => ?_)
  · obtain ⟨k, v, rfl, _⟩ := h
    rfl
  · obtain ⟨k, v, rfl, h⟩ := h
    refine ⟨_, (pss_cons (ps_set (i := 2) sc__law_read.nd rfl (Or.inl rfl) pe_non)
      (pss_cons (ps_set (i := 3) sc__law_read.nd rfl (Or.inl rfl) pe_non)
      (pss_cons (ps_try_keep (i := 4) rfl rfl rfl sc__law_read.nd rfl rfl ⟨rfl, by decide, .inl R.oat⟩ takesNo (fun W pn xe tk pp => (pss_one (ps_set (i := 2) sc__law_read.nd rfl (Or.inl rfl) (pe_ifExp (pt_cmpR op_eq (pv 0) pe_int (nomark _)) (pcallS (c_land_read T R S) (hr.mono (by omega)) (passAt tk) (pa_cons (pv 1) pa_nil)) (pcallS (c_plan_read T R S) (hr.mono (by omega)) (passAt tk) (pa_cons (pv 1) pa_nil)))))) (fun a pn => (pss_one (ps_set (i := 3) sc__law_read.nd rfl (Or.inl rfl) (pv 4)))))
      (pss_one (ps_ret (pe_ifExp (pt_cmpR op_isN (pv 3) pe_non (nomark _)) (pv 2) (pcall (c__law_refusal T R) (hr.mono (by omega)) (pa_cons (pv 3) pa_nil)))))))), ?_⟩
    have hk0 : decide (V.int ((k : Nat) : Int) = V.int 0) = decide (k = 0) := decI k
    refine ⟨_, rfl, rfl, _, rfl, ?_⟩
    rw [hk0]
    rcases h with ⟨hn, q⟩ | ⟨l, rfl, hl, h⟩
    · by_cases h0 : k = 0
      · rw [decide_eq_true h0]
        refine iteT ⟨_, rfl, v, rfl, .inr ⟨hn H, fun H1 s1 => ?_⟩⟩
        refine ⟨true, (R.ok _ eT).xo, fun _ e ne => ⟨_, rfl, ⟨_, rfl, rfl, false, rfl, iteF ⟨_, rfl, e, _, rfl, eT, upd_same, fun H2 s2 => ?_⟩⟩⟩, fun z => nomatch z⟩
        rw [e_text]
        exact q _ (s1.trans ((same_new ne).trans s2))
      · rw [decide_eq_false h0]
        refine iteF ⟨_, rfl, v, rfl, .inr ⟨hn H, fun H1 s1 => ?_⟩⟩
        refine ⟨true, (R.ok _ eT).xo, fun _ e ne => ⟨_, rfl, ⟨_, rfl, rfl, false, rfl, iteF ⟨_, rfl, e, _, rfl, eT, upd_same, fun H2 s2 => ?_⟩⟩⟩, fun z => nomatch z⟩
        rw [e_text]
        exact q _ (s1.trans ((same_new ne).trans s2))
    · rcases h with ⟨h0, q, qe⟩ | ⟨h0, q, qe⟩
      · rw [decide_eq_true h0]
        refine iteT ⟨_, rfl, _, rfl, .inl ⟨l, rfl, hl, fun A W hA t a d H1 s1 h1 h2 h3 => ?_, fun hn H1 s1 => ?_⟩⟩
        · exact ⟨_, rfl, rfl, true, rfl, iteT ⟨_, rfl, q A W hA t a d H1 s1 h1 h2 h3⟩⟩
        · refine ⟨true, (R.ok _ eT).xo, fun _ e ne => ⟨_, rfl, ⟨_, rfl, rfl, false, rfl, iteF ⟨_, rfl, e, _, rfl, eT, upd_same, fun H2 s2 => ?_⟩⟩⟩, fun z => nomatch z⟩
          rw [e_text]
          exact qe hn _ (s1.trans ((same_new ne).trans s2))
      · rw [decide_eq_false (by omega)]
        refine iteF ⟨_, rfl, _, rfl, .inl ⟨l, rfl, hl, fun ds hds pl H1 s1 _ h1 => ?_, fun hn H1 s1 => ?_⟩⟩
        · exact ⟨_, rfl, rfl, true, rfl, iteT ⟨_, rfl, q ds hds pl H1 s1 h1⟩⟩
        · refine ⟨true, (R.ok _ eT).xo, fun _ e ne => ⟨_, rfl, ⟨_, rfl, rfl, false, rfl, iteF ⟨_, rfl, e, _, rfl, eT, upd_same, fun H2 s2 => ?_⟩⟩⟩, fun z => nomatch z⟩
          rw [e_text]
          exact qe hn _ (s1.trans ((same_new ne).trans s2))
/-! ### land_text, refused; _law_written -/
inductive BadLT (K : PySem.W.Frag) (H : Hp) : V → V → Str → Prop
  | land {v1 v2 : V} {o : Option (List V)} : ThS K H v1 o → landB o = false → BadLT K H v1 v2 "BadLand"
  | wants {a : Addr} {L : List Nat} {v2 : V} {o : Option (List V)} : SqT K H a (landV L) → L.length < 30 → WfL L → ThS K H v2 o → wantsB (L.length + 1) o = false → BadLT K H (.ref a) v2 "BadWants"
def sp_land_text_bad (K : PySem.W.Frag) : Sp := fun vs H Q E => ∃ v1 v2 x, vs = [v1, v2] ∧ BadLT K H v1 v2 x ∧ ∀ H', Same H H' → E (.ref (He.ga K x)) none H'
theorem c_land_text_bad (T : Txt K mg) (R : Errs K mg) : Cal P w K mg base (L2.CX P w) 4 "land_text" ["land", "wants"] (sp_land_text_bad K) := by
  refine calX T.d_land_text sc_land_text (fun _ _ _ _ _ _ us hl => match us, hl with | [_, _], _ => rfl) (fun vs H Q E h => ?_) (fun f cdv A' outer s H vs Q E hr h => ?_)
  · obtain ⟨v1, v2, x, rfl, _⟩ := h
    rfl
  · obtain ⟨v1, v2, x, rfl, hb, qe⟩ := h
    refine ⟨_, (pss_cons (ps_expr (pcallS (c_look_landX T R) (hr.mono (by omega)) (passAt (takes_of rfl rfl rfl rfl)) (pa_cons (pv 0) pa_nil)))
      (pss_cons (ps_if (pt_not (pt_val (pcall (c_is_wantsG T) (hr.mono (by omega)) (pa_cons (pv 0) (pa_cons (pv 1) pa_nil))))) (pss_one (ps_raise rfl (takes_of rfl rfl rfl rfl) (pmkE R (by decide +kernel) (by decide +kernel) rfl))) pss_nil)
      (pss_cons (ps_set (i := 2) sc_land_text.nd rfl (Or.inl rfl) (pe_lst pa_nil))
      (pss_cons (ps_for (passes_of rfl) rfl (pi_range1 rfl T.b_range (pa_cons (pe_callB (lenS K) rfl T.b_len PySem.boot_len (pa_cons (pv 0) pa_nil)) pa_nil)) (pg_name (i := 3) sc_land_text.nd rfl (Or.inl rfl)) (pss_cons (ps_set (i := 4) sc_land_text.nd rfl (Or.inl rfl) (pe_ifExp (pt_cmpR op_isN (pe_ix (ixT K) (pv 0) (pv 3) (fun _ _ => rfl)) pe_non (nomark _)) pe_str (pe_callTy call_str_int rfl T.b_str (by decide +kernel) (pa_cons (pe_ix (ixT K) (pv 0) (pv 3) (fun _ _ => rfl)) pa_nil))))
      (pss_one (ps_expr (pe_bm PySem.F.plainAttrs_list PySem.F.slot_list_append PySem.F.type_list_append mt_append (pv 2) (pa_cons (pe_op op_add_str (pe_op op_add_str (pv 4) pe_str) (pe_ifExp (pt_cmpR op_isN (pe_ix (ixT K) (pv 1) (pv 3) (fun _ _ => rfl)) pe_non (nomark _)) pe_str (pe_callTy call_str_int rfl T.b_str (by decide +kernel) (pa_cons (pe_ix (ixT K) (pv 1) (pv 3) (fun _ _ => rfl)) pa_nil)))) pa_nil))))))
      (pss_one (ps_ret (pe_joinK K pe_str (pv 2)))))))), ?_⟩
    cases hb with
    | @land _ _ o h1 h2 => exact ⟨_, rfl, v1, o, rfl, h1, (fun _ H1 s1 => qe H1 s1), fun h => by rw [h2] at h; cases h⟩
    | @wants a L _ o h1 h2 h3 h4 h5 =>
      refine ⟨_, rfl, .ref a, some (landV L), rfl, (fun H' s' => land_tht (same_t s' h1) h2), (fun h => by rw [land_ok h2 h3] at h; cases h), fun _ H1 s1 => ?_⟩
      refine ⟨_, rfl, _, rfl, a, landV L, v2, o, rfl, same_t s1 h1, (fun H' s' => h4 _ (s1.trans s')), fun H2 s2 => ⟨_, rfl, ?_⟩⟩
      rw [landV_len, h5]
      exact iteT (qe _ (s1.trans s2))
def BadPT (K : PySem.W.Frag) (H : Hp) (v : V) : Prop := (∀ H', Same H H' → ∃ t, TyX K H' v (.type t) ∧ kitB t "list" = some false) ∨ ∃ pl u, v = .ref pl ∧ SqL K H pl [u] ∧ DeedV K H u false
theorem BadPT.same {H H' : Hp} {v : V} (h : BadPT K H v) (s : Same H H') : BadPT K H' v := by
  rcases h with h | ⟨pl, u, e, h1, h2⟩
  · exact .inl fun H2 s2 => h _ (s.trans s2)
  · exact .inr ⟨pl, u, e, same_l s h1, h2.same s⟩
def sp_law_written (K : PySem.W.Frag) : Sp := fun vs H Q _ => ∃ (k : Nat) (v1 v2 : V) (x : Str), vs = [.int ((k : Nat) : Int), v1, v2] ∧ x ∈ errN ∧ ((k = 0 ∧ BadLT K H v1 v2 x) ∨ (k = 1 ∧ x = "BadText" ∧ BadPT K H v1)) ∧ ∀ H', Same H H' → Q (.str (errW x)) H'
theorem c__law_written (T : Txt K mg) (R : Errs K mg) (S : Signs K w mg) : Cal P w K mg base CX0 5 "_law_written" ["sort_of", "one", "two"] (sp_law_written K) := by
  refine cal0 T.d__law_written sc__law_written (fun _ _ _ _ _ _ us hl => match us, hl with | [_, _, _], _ => rfl) (fun vs H Q E h => ?_) (fun f cdv A' outer s H vs Q E hr h => ?_)
  · obtain ⟨k, v1, v2, x, rfl, _⟩ := h
    rfl
  · obtain ⟨k, v1, v2, x, rfl, hx, h, q⟩ := h
    refine ⟨_, (pss_cons (ps_set (i := 3) sc__law_written.nd rfl (Or.inl rfl) pe_non)
      (pss_cons (ps_try_keep (i := 4) rfl rfl rfl sc__law_written.nd rfl rfl ⟨rfl, by decide, .inl R.oat⟩ takesNo (fun W pn xe tk pp => (pss_one (ps_if (pt_cmpR op_eq (pv 0) pe_int (nomark _)) (pss_one (ps_expr (pcallS (c_land_text_bad T R) (hr.mono (by omega)) (passAt tk) (pa_cons (pv 1) (pa_cons (pv 2) pa_nil))))) (pss_one (ps_expr (pcallS (c_plan_text T R S) (hr.mono (by omega)) (passAt tk) (pa_cons (pv 1) pa_nil))))))) (fun a pn => (pss_one (ps_set (i := 3) sc__law_written.nd rfl (Or.inl rfl) (pv 4)))))
      (pss_one (ps_ret (pe_ifExp (pt_cmpR op_isN (pv 3) pe_non (nomark _)) pe_str (pcall (c__law_refusal T R) (hr.mono (by omega)) (pa_cons (pv 3) pa_nil))))))), ?_⟩
    refine ⟨_, rfl, rfl, _, rfl, ?_⟩
    rw [decI k]
    rcases h with ⟨h0, h⟩ | ⟨h0, rfl, h⟩
    · rw [decide_eq_true h0]
      refine iteT ⟨_, rfl, _, rfl, v1, v2, x, rfl, h, fun H1 s1 => ?_⟩
      exact ⟨true, (R.ok _ hx).xo, fun _ e ne => ⟨_, rfl, ⟨_, rfl, rfl, false, rfl, iteF ⟨_, rfl, e, _, rfl, hx, upd_same, fun H2 s2 => q _ (s1.trans ((same_new ne).trans s2))⟩⟩⟩, fun z => nomatch z⟩
    · rw [decide_eq_false (by omega)]
      have hb : (∃ t, TyX K H v1 (.type t) ∧ kitB t "list" = some false) ∨ ∃ pl u, v1 = .ref pl ∧ SqL K H pl [u] ∧ DeedV K H u false := by
        rcases h with h | h
        · exact .inl (h H (Same.refl _))
        · exact .inr h
      refine iteF ⟨_, rfl, v1, rfl, .inr ⟨hb, fun H1 s1 => ?_⟩⟩
      exact ⟨true, (R.ok _ hx).xo, fun _ e ne => ⟨_, rfl, ⟨_, rfl, rfl, false, rfl, iteF ⟨_, rfl, e, _, rfl, hx, upd_same, fun H2 s2 => q _ (s1.trans ((same_new ne).trans s2))⟩⟩⟩, fun z => nomatch z⟩
/-! ### texts that tell nothing -/
section
variable {α : Type} {Rr : Hp → V → α → Prop} {te tb : TE} {vs : List Nat} {σ : L2.St} {i j : Nat} {H : Hp} {l : Addr}
/-- [f(one) for one in l] != words, l at i -/
theorem ne_wordsV {Q : Bool → Hp → Prop} (xs : List V) (ws : List Str) (g : V → Str) (hσ : σ[i]? = some (some (.ref l))) (hl : SqL K H l xs) (hn : xs.length ≤ 100) (hg : xs.map g = ws) (hs : ws.all PyData.strOk = true) (hb : Words tb σ ws) (hw : ∀ x, wipe ((wipe σ vs).set j (some x)) vs = wipe σ vs)
    (step : ∀ v H4, v ∈ xs → Same H H4 → ∀ Q' : VK, (∀ H5, Same H4 H5 → Q' (.str (g v)) H5) → te ((wipe σ vs).set j (some v)) H4 Q')
    (q : ∀ H2, Same H H2 → Q false H2) : tTest (tOp (rNeD K) (tLc (iList K (tVar i)) (gName j) tYes te vs) tb) σ H Q := by
  refine ⟨_, hσ, l, rfl, ⟨_, hl⟩, fun D hD => ?_⟩
  refine lc_vals (walk_list (xs := xs)) hD (by omega) (fun H' s => same_l s hl) (fun k => V.str ((xs.map g).getD k "")) (fun k x H2 H3 hi s3 y => ?_) (fun H2 s2 hy => ?_)
  · obtain ⟨rfl, hx⟩ := y
    refine ⟨Same.refl _, hw x, fun H4 s4 Q' q' => ?_⟩
    have : (xs.map g).getD k "" = g x := by rw [List.getD_eq_getElem?_getD, List.getElem?_map, hx]; rfl
    rw [this] at q'
    exact step x H4 (List.mem_of_getElem? hx) s4 Q' q'
  · have hD2 : H2 D = some (.lst (ws.map V.str)) := by
      rw [hy, ← List.length_map (f := g)]
      have := congrArg (List.map V.str) (Oat.range_getD (xs.map g) "")
      rw [List.map_map] at this
      rw [← hg, ← this]
      rfl
    refine hb H2 _ fun l2 H3 s4 hl2 => ?_
    exact ne_sameD (.lst (sql (s4 _ _ hD2)) dp_strs) (.lst (sql hl2) dp_strs) (shaped_strs ws hs) ⟨false, rfl, q H3 (s2.trans s4)⟩
end
def odd0 : List (List Nat) := [[], [45], [45,58], [58,46], [48,58,46], [45,58,46,10], [45,58,46,10,49,58,46], [45,58,46,10,45,58,46], [45,58,49,48,48,48], [45,58,48,49], [45,58,46,10,48,58,46,58,46], [45,58,46,32], [45,58,120], [45,58,45,49], [45,58,46,10,32,48,58,46]]
def odd1 : List (List Nat) := [[32], [48], [48,62], [62,49], [54,62,49], [48,62,49,32], [48,42,49], [48,62,48,49], [48,62,120], [48,62,49,48,48,48,48,48], [48,48,62,49], [48,62,49,32,32,48,62,49], [48,62,45,49], [48,62,32,49]]
theorem odd0_no : ∀ l ∈ odd0, readF l = none ∧ l.length ≤ 900 := by decide +kernel
theorem odd1_no : ∀ l ∈ odd1, planF l = none ∧ l.length ≤ 900 := by decide +kernel
def far31 : List Nat := joinL [10] ([45,58,46] :: List.replicate 30 [48,58,46])
theorem far31_no : readF far31 = none ∧ far31.length ≤ 900 := by decide +kernel
theorem noStr_non : NoStr K .non := fun H => ⟨"NoneType", TyX.base TyOf.non, by decide +kernel⟩
theorem noStr_int {i : Int} : NoStr K (.int i) := fun H => ⟨"int", TyX.base (TyOf.int _), by decide +kernel⟩
end
end Oa
namespace Oa
open PySem PySem.Spec PyProof.Rows L2 Oat TL
def lits0 : List V := [.non, .int 5, .str "", .str "-", .str "-:", .str ":.", .str "0:.", .str "-:.\n", .str "-:.\n1:.", .str "-:.\n-:.", .str "-:1000", .str "-:01", .str "-:.\n0:.:.", .str "-:. ", .str "-:x", .str "-:-1", .str "-:.\n 0:."]
def lits1 : List V := [.non, .int 5, .str " ", .str "0", .str "0>", .str ">1", .str "6>1", .str "0>1 ", .str "0*1", .str "0>01", .str "0>x", .str "0>100000", .str "00>1", .str "0>1  0>1", .str "0>-1", .str "0> 1"]
theorem lits0_eq : lits0 = .non :: .int 5 :: odd0.map fun l => .str (mkS l) := by kernel_rfl
theorem lits1_eq : lits1 = .non :: .int 5 :: odd1.map fun l => .str (mkS l) := by kernel_rfl
theorem far_eq : Txt.join "\n" ("-:." :: List.replicate 30 "0:.") = mkS far31 := by
  have e : (("-:." : Str) :: List.replicate 30 ("0:." : Str)) = ([45,58,46] :: List.replicate 30 [48,58,46]).map mkS := by kernel_rfl
  rw [e, s_nl, join_mkS]
  rfl
theorem far_sum : ((("-:." : Str) :: List.replicate 30 ("0:." : Str)).map (·.length)).sum + ((("-:." : Str) :: List.replicate 30 ("0:." : Str))).length * ("\n" : Str).length ≤ 16777216 := by decide +kernel
section
variable {P : Program} {w : World} {K : PySem.W.Frag} {mg : Str → Option Value} {base : Heap}
section
variable {α : Type} {Rr : Hp → V → α → Prop} {te tb : TE} {vs : List Nat} {σ : L2.St} {i j : Nat} {H : Hp} {l : Addr}
/-- the same, of things of a kind -/
theorem ne_wordsP {Q : Bool → Hp → Prop} (m : MonoS Rr) (xs : List V) (os : List α) (ws : List Str) (g : α → Str) (hσ : σ[i]? = some (some (.ref l))) (hl : SqL K H l xs) (hp : Paired (Rr H) xs os) (hn : os.length ≤ 100) (hg : os.map g = ws) (hs : ws.all PyData.strOk = true) (hb : Words tb σ ws) (hw : ∀ x, wipe ((wipe σ vs).set j (some x)) vs = wipe σ vs)
    (step : ∀ v o H4, o ∈ os → Same H H4 → Rr H4 v o → ∀ Q' : VK, (∀ H5, Same H4 H5 → Q' (.str (g o)) H5) → te ((wipe σ vs).set j (some v)) H4 Q')
    (q : ∀ H2, Same H H2 → Q false H2) : tTest (tOp (rNeD K) (tLc (iList K (tVar i)) (gName j) tYes te vs) tb) σ H Q := by
  have hlen := Paired.length hp
  refine ⟨_, hσ, l, rfl, ⟨_, hl⟩, fun D hD => ?_⟩
  refine lc_vals (walk_list (xs := xs)) hD (by omega) (fun H' s => same_l s hl) (fun k => V.str ((os.map g).getD k "")) (fun k x H2 H3 hi s3 y => ?_) (fun H2 s2 hy => ?_)
  · obtain ⟨rfl, hx⟩ := y
    obtain ⟨o, ho, hr⟩ := paired_at2 hp hx
    refine ⟨Same.refl _, hw x, fun H4 s4 Q' q' => ?_⟩
    have : (os.map g).getD k "" = g o := by rw [List.getD_eq_getElem?_getD, List.getElem?_map, ho]; rfl
    rw [this] at q'
    exact step x o H4 (List.mem_of_getElem? ho) s4 (m s4 hr) Q' q'
  · have hD2 : H2 D = some (.lst (ws.map V.str)) := by
      rw [hy, hlen, ← List.length_map (f := g)]
      have := congrArg (List.map V.str) (Oat.range_getD (os.map g) "")
      rw [List.map_map] at this
      rw [← hg, ← this]
      rfl
    refine hb H2 _ fun l2 H3 s4 hl2 => ?_
    exact ne_sameD (.lst (sql (s4 _ _ hD2)) dp_strs) (.lst (sql hl2) dp_strs) (shaped_strs ws hs) ⟨false, rfl, q H3 (s2.trans s4)⟩
end
theorem asg_lstR {α : Type} {Rr : Hp → V → α → Prop} {ta : TA} {σ : L2.St} {i : Nat} {tr : TS} {D : Ends} {H : Hp} (m : MonoS Rr) (os : List α) (mk : MkSA Rr ta σ os) (hl : os.length ≤ 100) (q : ∀ l xs H', Same H H' → H' l = some (.lst xs) → Paired (Rr H') xs os → tr D (σ.set i (some (.ref l))) H') : tSeq (tAsg (tLst ta) (gName i)) tr D σ H := by
  refine mk H _ fun xs H5 s5 hp => ⟨by rw [Paired.length hp]; exact size100 hl, fun lb nlb => ?_⟩
  have s6 := same_new (o := .lst xs) nlb
  exact q lb xs _ (s5.trans s6) upd_same (paired_imp hp fun _ _ z => m s6 z)
def PRt (K : PySem.W.Frag) (H : Hp) (v : V) (_ : Unit) : Prop := BadPT K H v
theorem monoS_q : MonoS (PRt K) := fun s h => h.same s
section
variable {σ : L2.St} {ta : TA}
theorem mq_non : MkS (PRt K) (tC .non) σ () := fun H Q q => q _ H (Same.refl _) (.inl fun _ _ => ⟨"NoneType", TyX.base TyOf.non, by decide +kernel⟩)
theorem mq_tup {te : TE} (h : ∀ H (Q : VK), (∀ v H', Same H H' → Q v H') → te σ H Q) : MkS (PRt K) (tTup (tCons te tNil)) σ () := fun H Q q =>
  h H _ fun v H1 s1 => ⟨by show 1 ≤ sizeLine; decide, fun p np => q _ _ (s1.trans (same_new np)) (.inl fun H' s' => ⟨"tuple", tyT (same_t s' (sqt upd_same)), by decide +kernel⟩)⟩
theorem mq_deed {xs : List V} (h : FlA ta σ xs) (hl : xs.length ≤ 100) (hd : ∀ H a, SqT K H a xs → DeedV K H (.ref a) false) : MkS (PRt K) (tLst (tCons (tTup ta) tNil)) σ () := fun H Q q =>
  h H _ ⟨size100 hl, fun t nt => ⟨by show 1 ≤ sizeLine; decide, fun l nl => q _ _ ((same_new nt).trans (same_new nl)) (.inr ⟨l, .ref t, rfl, sql upd_same, hd _ t (same_t (same_new nl) (sqt upd_same))⟩)⟩⟩
theorem mq_lst {xs : List V} (h : FlA ta σ xs) (hl : xs.length ≤ 100) : MkS (PRt K) (tLst (tCons (tLst ta) tNil)) σ () := fun H Q q =>
  h H _ ⟨size100 hl, fun t nt => ⟨by show 1 ≤ sizeLine; decide, fun l nl => q _ _ ((same_new nt).trans (same_new nl)) (.inr ⟨l, .ref t, rfl, sql upd_same, .none (ths_lst (sql ((same_new nl) _ _ upd_same)))⟩)⟩⟩
end
theorem deed_no {x y : V} (h : (isWholeV x 0 5 && isWholeV y 0 99999) = false) (fx : flatV x = true) (fy : flatV y = true) : ∀ H a, SqT K H a [.str "go", x, y] → DeedV K H (.ref a) false := fun H a hS => by
  have := DeedV.kind (i := 0) (by decide) hS (flat_of fx) (flat_of fy)
  rw [h] at this
  exact this
def sp_law_none : Sp := fun vs H Q _ => vs = [] ∧ ∀ H', Same H H' → Q (.bl true) H'
theorem c__law_none (T : Txt K mg) (R : Errs K mg) (S : Signs K w mg) : Cal P w K mg base CX0 6 "_law_none" [] sp_law_none := by
  refine cal0 T.d__law_none sc__law_none (fun _ _ _ _ _ _ us hl => match us, hl with | [], _ => rfl) (fun vs H Q E h => ?_) (fun f cdv A' outer s H vs Q E hr h => ?_)
  · obtain ⟨rfl, _⟩ := h
    rfl
  · obtain ⟨rfl, q⟩ := h
    refine ⟨_, (pss_cons (ps_set (i := 0) sc__law_none.nd rfl (Or.inl rfl) (pe_lst (pa_cons pe_non (pa_cons pe_int (pa_cons pe_str (pa_cons pe_str (pa_cons pe_str (pa_cons pe_str (pa_cons pe_str (pa_cons pe_str (pa_cons pe_str (pa_cons pe_str (pa_cons pe_str (pa_cons pe_str (pa_cons pe_str (pa_cons pe_str (pa_cons pe_str (pa_cons pe_str (pa_cons pe_str pa_nil)))))))))))))))))))
      (pss_cons (ps_if (PW.pt (pw_or (pt_cmpR (neDt K hr.units) (pe_lc (own := [("bad", 1)]) (g := gName 1) rfl sc__law_none.nd (piL K (pv 0)) (blkOk_by (own := [("bad", 1)]) (N := ["odd", "bad", "one"]) (sc := (defScope s__law_none)) (by decide +kernel)) (fun _ _ _ _ _ => pg_name (i := 1) sc__law_none.nd rfl (Or.inl rfl)) (fun _ _ _ _ _ => pts_nil) (fun _ _ _ _ _ => (pcall (c__law_read T R S) (hr.mono (by omega)) (pa_cons pe_int (pa_cons (pv 1) pa_nil))))) (pe_op op_rep (pe_lst (pa_cons pe_str pa_nil)) pe_int) (nomark _)) (pw_or1 (pt_cmpR op_ne (pcall (c__law_read T R S) (hr.mono (by omega)) (pa_cons pe_int (pa_cons (pe_joinK K pe_str (pe_op op_cat (pe_lst (pa_cons pe_str pa_nil)) (pe_op op_rep (pe_lst (pa_cons pe_str pa_nil)) pe_int))) pa_nil))) pe_str (nomark _))))) (pss_one (ps_ret pe_bl)) pss_nil)
      (pss_cons (ps_set (i := 0) sc__law_none.nd rfl (Or.inl rfl) (pe_lst (pa_cons pe_non (pa_cons pe_int (pa_cons pe_str (pa_cons pe_str (pa_cons pe_str (pa_cons pe_str (pa_cons pe_str (pa_cons pe_str (pa_cons pe_str (pa_cons pe_str (pa_cons pe_str (pa_cons pe_str (pa_cons pe_str (pa_cons pe_str (pa_cons pe_str (pa_cons pe_str pa_nil))))))))))))))))))
      (pss_cons (ps_if (PW.pt (pw_or (pt_cmpR (neDt K hr.units) (pe_lc (own := [("bad", 1)]) (g := gName 1) rfl sc__law_none.nd (piL K (pv 0)) (blkOk_by (own := [("bad", 1)]) (N := ["odd", "bad", "one"]) (sc := (defScope s__law_none)) (by decide +kernel)) (fun _ _ _ _ _ => pg_name (i := 1) sc__law_none.nd rfl (Or.inl rfl)) (fun _ _ _ _ _ => pts_nil) (fun _ _ _ _ _ => (pcall (c__law_read T R S) (hr.mono (by omega)) (pa_cons pe_int (pa_cons (pv 1) pa_nil))))) (pe_op op_rep (pe_lst (pa_cons pe_str pa_nil)) pe_int) (nomark _)) (pw_or (pt_cmpR (op_neLE K hr.units0) (pcallS (c_plan_read T R S) (hr.mono (by omega)) (passAt takesNo) (pa_cons pe_str pa_nil)) (pe_lst pa_nil) (nomark _)) (pw_or1 (pt_cmpR op_ne (pcallS (c_plan_text T R S) (hr.mono (by omega)) (passAt takesNo) (pa_cons (pe_lst pa_nil) pa_nil)) pe_str (nomark _)))))) (pss_one (ps_ret pe_bl)) pss_nil)
      (pss_cons (ps_set (i := 1) sc__law_none.nd rfl (Or.inl rfl) (pe_lst (pa_cons (pe_lst (pa_cons (pe_tup (pa_cons pe_str (pa_cons pe_int (pa_cons pe_int pa_nil)))) pa_nil)) (pa_cons (pe_lst (pa_cons (pe_tup (pa_cons pe_str (pa_cons pe_int pa_nil))) pa_nil)) (pa_cons (pe_lst (pa_cons (pe_tup (pa_cons pe_str (pa_cons pe_int (pa_cons pe_int pa_nil)))) pa_nil)) (pa_cons (pe_lst (pa_cons (pe_tup (pa_cons pe_str (pa_cons pe_int (pa_cons (pe_op op_sub pe_int pe_int) pa_nil)))) pa_nil)) (pa_cons (pe_lst (pa_cons (pe_tup (pa_cons pe_str (pa_cons pe_bl (pa_cons pe_int pa_nil)))) pa_nil)) (pa_cons (pe_lst (pa_cons (pe_tup (pa_cons pe_str (pa_cons pe_int (pa_cons pe_int pa_nil)))) pa_nil)) (pa_cons (pe_lst (pa_cons (pe_lst (pa_cons pe_str (pa_cons pe_int (pa_cons pe_int pa_nil)))) pa_nil)) (pa_cons pe_non (pa_cons (pe_tup (pa_cons (pe_tup (pa_cons pe_str (pa_cons pe_int (pa_cons pe_int pa_nil)))) pa_nil)) pa_nil)))))))))))
      (pss_cons (ps_if (pt_cmpR (neDt K hr.units) (pe_lc (own := [("one", 2)]) (g := gName 2) rfl sc__law_none.nd (piL K (pv 1)) (blkOk_by (own := [("one", 2)]) (N := ["odd", "bad", "one"]) (sc := (defScope s__law_none)) (by decide +kernel)) (fun _ _ _ _ _ => pg_name (i := 2) sc__law_none.nd rfl (Or.inl rfl)) (fun _ _ _ _ _ => pts_nil) (fun _ _ _ _ _ => (pcall (c__law_written T R S) (hr.mono (by omega)) (pa_cons pe_int (pa_cons (pv 2) (pa_cons pe_int pa_nil)))))) (pe_op op_rep (pe_lst (pa_cons pe_str pa_nil)) pe_int) (nomark _)) (pss_one (ps_ret pe_bl)) pss_nil)
      (pss_one (ps_ret (pe_cmpR (eqDt K hr.units) (pe_lst (pa_cons (pcall (c__law_written T R S) (hr.mono (by omega)) (pa_cons pe_int (pa_cons pe_non (pa_cons pe_non pa_nil)))) (pa_cons (pcall (c__law_written T R S) (hr.mono (by omega)) (pa_cons pe_int (pa_cons (pe_tup (pa_cons pe_non pa_nil)) (pa_cons pe_non pa_nil)))) (pa_cons (pcall (c__law_written T R S) (hr.mono (by omega)) (pa_cons pe_int (pa_cons (pe_tup (pa_cons pe_non pa_nil)) (pa_cons (pe_tup (pa_cons pe_non (pa_cons pe_non pa_nil))) pa_nil)))) pa_nil)))) (pe_lst (pa_cons pe_str (pa_cons pe_str (pa_cons pe_str pa_nil)))) (nomark _)))))))))), ?_⟩
    refine ⟨by show 17 ≤ sizeLine; decide, fun o1 n1 => ?_⟩
    have s1 := same_new (o := .lst lits0) n1
    have h1 : (upd H o1 (.lst lits0)) o1 = some (.lst lits0) := upd_same
    dsimp only [gName]
    show tSeq (tIfS _ _ _) _ _ [some (.ref o1), none, none] (upd H o1 (.lst lits0))
    generalize upd H o1 (.lst lits0) = H1 at s1 h1
    rw [lits0_eq] at h1
    refine if_no (fun H' => Same H1 H') (fun Q' q' => ?_) (fun H2 s2 => ?_)
    · refine or_no (fun H' => Same H1 H') (fun Q'' q'' => ?_) (fun Hb sb => ?_)
      · refine ne_wordsV _ (List.replicate 17 "text") (fun _ => "text") rfl (sql h1) (by decide) rfl (by decide +kernel) (words_rep (by decide) (by decide) rfl) (fun _ => by rfl) (fun v H4 hv s4 Q2 q2 => ?_) q''
        refine ⟨_, rfl, 0, v, rfl, ?_⟩
        rcases List.mem_cons.mp hv with rfl | hv
        · exact .inl ⟨noStr_non, q2⟩
        rcases List.mem_cons.mp hv with rfl | hv
        · exact .inl ⟨noStr_int, q2⟩
        obtain ⟨l, hl, rfl⟩ := List.mem_map.mp hv
        obtain ⟨k1, k2⟩ := odd0_no l hl
        exact .inr ⟨l, rfl, k2, .inl ⟨rfl, (fun A W h => by rw [k1] at h; cases h), fun _ => q2⟩⟩
      · refine ⟨⟨_, rfl⟩, by show 1 ≤ sizeLine; decide, fun l1 m1 => ⟨by show 1 ≤ sizeLine; decide, fun l2 m2 => ⟨l2, 30, _, rfl, rfl, upd_same, by decide, by decide, by show 1 * 30 ≤ sizeLine; decide, fun l3 m3 => ?_⟩⟩⟩
        have t1 := same_new (o := .lst [.str "-:."]) m1
        have t2 := same_new (o := .lst [.str "0:."]) m2
        have t3 := same_new (o := .lst (List.replicate (Int.toNat 30) [.str "0:."]).flatten) m3
        refine ⟨l1, l3, _, _, rfl, rfl, (t2.trans t3) _ _ upd_same, upd_same, by show 31 ≤ sizeLine; decide, fun l4 m4 => ?_⟩
        have t4 := same_new (o := .lst ([.str "-:."] ++ (List.replicate (Int.toNat 30) [.str "0:."]).flatten)) m4
        refine ⟨_, l4, "-:." :: List.replicate 30 "0:.", rfl, rfl, .inl (sql upd_same), far_sum, ?_⟩
        rw [far_eq]
        refine ⟨0, _, rfl, .inr ⟨far31, rfl, far31_no.2, .inl ⟨rfl, (fun A W h => by rw [far31_no.1] at h; cases h), fun _ H5 s5 => ?_⟩⟩⟩
        exact ⟨rfl, false, rfl, q' _ (sb.trans (t1.trans (t2.trans (t3.trans (t4.trans s5)))))⟩
    have s02 := s1.trans s2
    clear h1 s1 s2
    -- plans
    refine ⟨by show 16 ≤ sizeLine; decide, fun o2 n2 => ?_⟩
    have s3 := same_new (o := .lst lits1) n2
    have h3 : (upd H2 o2 (.lst lits1)) o2 = some (.lst lits1) := upd_same
    dsimp only [gName]
    show tSeq (tIfS _ _ _) _ _ [some (.ref o2), none, none] (upd H2 o2 (.lst lits1))
    generalize upd H2 o2 (.lst lits1) = H3 at s3 h3
    rw [lits1_eq] at h3
    refine if_no (fun H' => Same H3 H') (fun Q' q' => ?_) (fun H4 s4 => ?_)
    · refine or_no (fun H' => Same H3 H') (fun Q'' q'' => ?_) (fun Hb sb => ?_)
      · refine ne_wordsV _ (List.replicate 16 "text") (fun _ => "text") rfl (sql h3) (by decide) rfl (by decide +kernel) (words_rep (by decide) (by decide) rfl) (fun _ => by rfl) (fun v H4 hv s4 Q2 q2 => ?_) q''
        refine ⟨_, rfl, 1, v, rfl, ?_⟩
        rcases List.mem_cons.mp hv with rfl | hv
        · exact .inl ⟨noStr_non, q2⟩
        rcases List.mem_cons.mp hv with rfl | hv
        · exact .inl ⟨noStr_int, q2⟩
        obtain ⟨l, hl, rfl⟩ := List.mem_map.mp hv
        obtain ⟨k1, k2⟩ := odd1_no l hl
        exact .inr ⟨l, rfl, k2, .inr ⟨rfl, (fun A h => by rw [k1] at h; cases h), fun _ => q2⟩⟩
      refine or_no (fun H' => Same H3 H') (fun Q'' q'' => ?_) (fun Hc sc => ?_)
      · refine ⟨_, rfl, .inl ⟨[], rfl, by decide, fun ds hds pl H5 s5 _ hP => ?_, fun hn => by cases hn⟩⟩
        have hds : some [] = some ds := hds
        cases hds
        obtain ⟨ts, h5, h6⟩ := hP
        cases h6
        refine ⟨Nat.zero_le _, fun l0 m0 => ?_⟩
        have t0 := same_new (o := .lst []) m0
        exact ⟨pl, l0, [], rfl, rfl, same_l t0 h5, sql upd_same, false, rfl, q'' _ (sb.trans (s5.trans t0))⟩
      · refine ⟨Nat.zero_le _, fun l0 m0 => ?_⟩
        have t0 := same_new (o := .lst []) m0
        refine ⟨_, rfl, .inl ⟨l0, [], rfl, ⟨[], sql upd_same, .nil⟩, by decide, (fun d hd => by cases hd), fun H5 s5 => ?_⟩⟩
        exact ⟨rfl, false, rfl, q' _ (sc.trans (t0.trans s5))⟩
    have s04 := s02.trans (s3.trans s4)
    clear h3 s3 s4
    -- what is no plan
    refine asg_lstR (Rr := PRt K) monoS_q [(), (), (), (), (), (), (), (), ()] ?_ (by decide) (fun lb xs H6 s6 h6 hp6 => ?_)
    · exact ms_cons monoS_q (mq_deed (xs := [.str "go", .int 6, .int 1]) (fun _ _ q => q) (by decide) (deed_no rfl rfl rfl)) (ms_cons monoS_q (mq_deed (xs := [.str "go", .int 0]) (fun _ _ q => q) (by decide) (fun H a h => .len h (by decide))) (ms_cons monoS_q (mq_deed (xs := [.str "ride", .int 0, .int 1]) (fun _ _ q => q) (by decide) (fun H a h => .ride h)) (ms_cons monoS_q (mq_deed (xs := [.str "go", .int 0, .int (0 - 1)]) (fun _ _ q => ⟨_, _, rfl, rfl, q⟩) (by decide) (deed_no rfl rfl rfl)) (ms_cons monoS_q (mq_deed (xs := [.str "go", .bl true, .int 1]) (fun _ _ q => q) (by decide) (deed_no rfl rfl rfl)) (ms_cons monoS_q (mq_deed (xs := [.str "go", .int 0, .int 100000]) (fun _ _ q => q) (by decide) (deed_no rfl rfl rfl)) (ms_cons monoS_q (mq_lst (xs := [.str "go", .int 0, .int 1]) (fun _ _ q => q) (by decide)) (ms_cons monoS_q mq_non (ms_cons monoS_q (mq_tup fun H Q q => ⟨by show 3 ≤ sizeLine; decide, fun p np => q _ _ (same_new np)⟩) ms_nil))))))))
    show tSeq (tIfS _ _ _) _ _ [some (.ref o2), some (.ref lb), none] H6
    have s06 := s04.trans s6
    refine if_no (fun H' => Same H6 H') (fun Q' q' => ?_) (fun H7 s7 => ?_)
    · refine ne_wordsP (Rr := PRt K) monoS_q xs [(), (), (), (), (), (), (), (), ()] (List.replicate 9 "text") (fun _ => "text") rfl (sql h6) hp6 (by decide) rfl (by decide +kernel) (words_rep (by decide) (by decide) rfl) (fun _ => by rfl) (fun v o H8 _ s8 hv Q2 q2 => ?_) q'
      refine ⟨_, rfl, 1, v, .int 0, "BadText", rfl, eT, .inr ⟨rfl, rfl, hv⟩, fun H9 s9 => ?_⟩
      rw [e_text]
      exact q2 _ s9
    have s07 := s06.trans s7
    clear s7 s06 s6 s04 h6 hp6
    -- the last
    have wf0 : WfL [] := fun i hi => absurd hi (Nat.not_lt_zero i)
    refine ⟨0, .non, .non, "BadLand", rfl, eL, .inl ⟨rfl, .land (o := none) (fun _ _ => tht_non) rfl⟩, fun H8 s8 => ?_⟩
    refine ⟨by show 1 ≤ sizeLine; decide, fun p1 m1 => ?_⟩
    have t1 := same_new (o := .tup [V.non]) m1
    refine ⟨0, .ref p1, .non, "BadWants", rfl, eN, .inl ⟨rfl, .wants (L := []) (o := none) (sqt upd_same) (by decide) wf0 (fun _ _ => tht_non) rfl⟩, fun H9 s9 => ?_⟩
    refine ⟨by show 1 ≤ sizeLine; decide, fun p2 m2 => ⟨by show 2 ≤ sizeLine; decide, fun p3 m3 => ?_⟩⟩
    have t2 := same_new (o := .tup [V.non]) m2
    have t3 := same_new (o := .tup [V.non, V.non]) m3
    refine ⟨0, .ref p2, .ref p3, "BadWants", rfl, eN, .inl ⟨rfl, .wants (L := []) (o := some [.non, .non]) (same_t t3 (sqt upd_same)) (by decide) wf0 (ths_tup (sqt upd_same) (by decide) rfl) (by decide +kernel)⟩, fun H10 s10 => ?_⟩
    rw [e_land, e_wants]
    refine ⟨by show 3 ≤ sizeLine; decide, fun l1 k1 => ⟨by show 3 ≤ sizeLine; decide, fun l2 k2 => ?_⟩⟩
    have u1 := same_new (o := .lst [V.str "land", V.str "wants", V.str "wants"]) k1
    have u2 := same_new (o := .lst [V.str "land", V.str "wants", V.str "wants"]) k2
    exact eq_same (.lst (sql (u2 _ _ upd_same)) (dp_strs (ws := ["land", "wants", "wants"]))) (.lst (sql upd_same) (dp_strs (ws := ["land", "wants", "wants"]))) (shaped_strs _ (by decide +kernel)) (q _ (s07.trans (s8.trans (t1.trans (s9.trans (t2.trans (t3.trans (s10.trans (u1.trans u2)))))))))
end
end Oa
namespace Oat
open PySem TL
theorem joinL_len (s m : Nat) : ∀ ps : List (List Nat), (∀ p ∈ ps, p.length ≤ m) → (joinL [s] ps).length ≤ ps.length * (m + 1)
  | [], _ => Nat.zero_le _
  | [p], h => by
    show p.length ≤ 1 * (m + 1)
    have := h p List.mem_cons_self
    omega
  | p :: q :: r, h => by
    show (p ++ ([s] ++ joinL [s] (q :: r))).length ≤ _
    have h1 := h p List.mem_cons_self
    have h2 := joinL_len s m (q :: r) fun x hx => h x (List.mem_cons_of_mem _ hx)
    rw [List.length_append, List.length_append, List.length_cons (as := q :: r), Nat.succ_mul]
    show p.length + (1 + _) ≤ _
    omega
end Oat
namespace Oa
open PySem PySem.Spec PyProof.Rows L2 Oat TL
/-! ### data -/
def oD : Option Nat → PyData
  | none => .none
  | some n => .int ((n : Nat) : Int)
def wD (W : List (Option Nat)) : PyData := .tuple (W.map oD)
def dD (d : Nat × Nat × Nat) : PyData := .tuple [.str (kindS d.1), .int ((d.2.1 : Nat) : Int), .int ((d.2.2 : Nat) : Int)]
theorem canLay_oD : ∀ W : List (Option Nat), PyData.canLayAll0 (W.map oD) = true
  | [] => by simp [PyData.canLayAll0]
  | none :: W => by simp only [List.map_cons, PyData.canLayAll0, oD, PyData.canLay0, canLay_oD W, Bool.and_self]
  | some _ :: W => by simp only [List.map_cons, PyData.canLayAll0, oD, PyData.canLay0, canLay_oD W, Bool.and_self]
theorem depth_oD : ∀ W : List (Option Nat), PyData.depthAll (W.map oD) ≤ 1
  | [] => by simp [PyData.depthAll]
  | none :: W => by
    have := depth_oD W
    simp only [List.map_cons, PyData.depthAll, oD, PyData.depth]
    omega
  | some _ :: W => by
    have := depth_oD W
    simp only [List.map_cons, PyData.depthAll, oD, PyData.depth]
    omega
theorem shaped_two (A W : List (Option Nat)) : SeqAt.shaped (.tuple [wD A, wD W]) = true := by
  have h1 := canLay_oD A
  have h2 := canLay_oD W
  have g1 := depth_oD A
  have g2 := depth_oD W
  unfold SeqAt.shaped wD
  refine Bool.and_eq_true_iff.mpr ⟨by simp only [PyData.canLay0, PyData.canLayAll0, h1, h2, Bool.and_self], decide_eq_true ?_⟩
  simp only [PyData.depth, PyData.depthAll]
  omega
theorem strOk_kind (i : Nat) : PyData.strOk (kindS i) = true := by
  unfold kindS
  split
  · decide +kernel
  · split
    · decide +kernel
    · decide +kernel
theorem canLay_dD : ∀ ds : List (Nat × Nat × Nat), PyData.canLayAll0 (ds.map dD) = true
  | [] => by simp [PyData.canLayAll0]
  | d :: ds => by simp only [List.map_cons, PyData.canLayAll0, dD, PyData.canLay0, canLay_dD ds, strOk_kind, Bool.and_self]
theorem depth_dD : ∀ ds : List (Nat × Nat × Nat), PyData.depthAll (ds.map dD) ≤ 3
  | [] => by simp [PyData.depthAll]
  | d :: ds => by
    have := depth_dD ds
    simp only [List.map_cons, PyData.depthAll, dD, PyData.depth]
    omega
theorem shaped_plan (ds : List (Nat × Nat × Nat)) : SeqAt.shaped (.list (ds.map dD)) = true := by
  have h1 := canLay_dD ds
  have g1 := depth_dD ds
  unfold SeqAt.shaped
  refine Bool.and_eq_true_iff.mpr ⟨by simp only [PyData.canLay0, h1], decide_eq_true ?_⟩
  simp only [PyData.depth]
  omega
section
variable {P : Program} {w : World} {K : PySem.W.Frag} {mg : Str → Option Value} {base : Heap}
theorem dp_wD {H : Hp} {a : Addr} {W : List (Option Nat)} (h : SqT K H a (wantsV W)) : Dp K H (.ref a) (wD W) := by
  refine .tup h ?_
  clear h
  induction W with
  | nil => exact .nil
  | cons o W ih =>
    cases o with
    | none => exact .cons .non ih
    | some n => exact .cons (.int _) ih
theorem dp_two {H : Hp} {t a d : Addr} {A W : List (Option Nat)} (h : SqT K H t [.ref a, .ref d]) (h1 : SqT K H a (wantsV A)) (h2 : SqT K H d (wantsV W)) : Dp K H (.ref t) (.tuple [wD A, wD W]) := .tup h (.cons (dp_wD h1) (.cons (dp_wD h2) .nil))
theorem dp_plan {H : Hp} {pl : Addr} {ds : List (Nat × Nat × Nat)} (h : PlanT K H pl ds) : Dp K H (.ref pl) (.list (ds.map dD)) := by
  obtain ⟨ts, h1, h2⟩ := h
  refine .lst h1 ?_
  clear h1
  induction h2 with
  | nil => exact .nil
  | cons a b ih => exact .cons (.tup a (.cons (.str _) (.cons (.int _) (.cons (.int _) .nil)))) ih
theorem landA_of {A W : List (Option Nat)} (hB : landB (some (wantsV A)) = true) (hl : A.length = W.length) (ha : ∀ n, some n ∈ A → n < 100000) (hw : ∀ n, some n ∈ W → n < 100000) : LandW A W := by
  rw [landB_some, wantsV_len] at hB
  simp only [Bool.and_eq_true, decide_eq_true_eq] at hB
  obtain ⟨⟨h1, h30⟩, h0, hall⟩ := hB
  refine ⟨hl, h1, h30, ?_, fun i hi1 hi2 => ?_, ha, hw⟩
  · have e : A[0]? = some (A.getD 0 none) := get_at (by omega)
    rw [e]
    have e2 : (wantsV A).getD 0 (.int 0) = optV (A.getD 0 none) := by unfold wantsV; rw [List.getD_eq_getElem?_getD, List.getElem?_map, e]; rfl
    rw [e2] at h0
    cases hc : A.getD 0 none with
    | none => rfl
    | some n => rw [hc] at h0; cases h0
  · have hm := List.all_eq_true.mp hall (i - 1) (List.mem_range.mpr (by omega))
    rw [show i - 1 + 1 = i by omega] at hm
    have e : A[i]? = some (A.getD i none) := get_at hi2
    have e2 : (wantsV A).getD i .non = optV (A.getD i none) := by unfold wantsV; rw [List.getD_eq_getElem?_getD, List.getElem?_map, e]; rfl
    rw [e2] at hm
    cases hc : A.getD i none with
    | none => rw [hc] at hm; cases hm
    | some n => exact ⟨n, by rw [e, hc]⟩
theorem readF_back {l : List Nat} {A W : List (Option Nat)} (h : readF l = some (A, W)) : l = landL A W ∧ LandW A W := by
  unfold readF at h
  cases hc : cellsF l with
  | none => rw [hc] at h; cases h
  | some AW =>
    obtain ⟨A', W'⟩ := AW
    rw [hc] at h
    dsimp only at h
    split at h
    · rename_i hb
      obtain ⟨rfl, rfl⟩ := Prod.mk.inj (Option.some.inj h)
      obtain ⟨h1, h2, _, _, h5, h6⟩ := cells_back hc
      exact ⟨h1, landA_of (Bool.and_eq_true_iff.mp hb).1 h2 h5 h6⟩
    · cases h
theorem readF_land {L : List Nat} {W : List (Option Nat)} (hl : L.length < 30) (wf : WfL L) (hw : W.length = L.length + 1) (wo : WantsOk W) : readF (landL (headA L) W) = some (headA L, W) := by
  have hL := landW_of hl wf hw wo
  unfold readF
  rw [cells_land (by unfold headA; simp) hL.l hL.n hL.a hL.w]
  dsimp only
  rw [headA_V, land_ok hl wf, wantsB_some, wantsV_len, headA_len, decide_eq_true hw]
  have : ((wantsV W).all fun x => isNonV x || isWholeV x 0 999) = true := List.all_eq_true.mpr fun x hx => by
    obtain ⟨o, ho, rfl⟩ := List.mem_map.mp hx
    cases o with
    | none => rfl
    | some n =>
      obtain ⟨i, hi⟩ := List.mem_iff_getElem?.mp ho
      have := wo i n hi
      show (false || decide _) = true
      rw [decide_eq_true ⟨by omega, by omega⟩]
      rfl
  rw [this]
  rfl
theorem mark_of {x : V} (h : x ∈ ([.str "0", .str "1", .str "9", .str "-", .str ":", .str ".", .str "\n", .str ">", .str "+", .str " ", .str ""] : List V)) : ∃ m : Str, x = .str m ∧ m.length ≤ 1 := by
  simp only [List.mem_cons, List.not_mem_nil, or_false] at h
  rcases h with rfl | rfl | rfl | rfl | rfl | rfl | rfl | rfl | rfl | rfl | rfl
  all_goals exact ⟨_, rfl, by decide +kernel⟩
theorem str_app_len (a b : Str) : (a ++ b).length = a.length + b.length := by
  rw [len_tl, tl_append, List.length_append, ← len_tl, ← len_tl]
theorem ok_law (T : Txt K mg) (R : Errs K mg) (S : Signs K w mg) {f : Addr} {fd : FuncData} (F : FunD K "law" "law" (defArgs s_law) (defBody s_law) (defScope s_law) [] [] f fd) : FnOk P w K mg base CX0 8 f fd ["script"] (sp_law K) := by
  refine okF F sc_law (fun vs H Q E h => ?_) (fun cdv A' outer s H vs Q E hr h => ?_)
  · obtain ⟨a, ns, rfl, _⟩ := h
    rfl
  · obtain ⟨sc, ns, rfl, hS, q⟩ := h
    refine ⟨_, (pss_cons (ps_set (i := 1) sc_law.nd rfl (Or.inl rfl) (pcall (c__law_town T) (hr.mono (by omega)) (pa_cons (pv 0) pa_nil)))
      (pss_cons (ps_set (i := 2) sc_law.nd rfl (Or.inl rfl) (pe_op op_add pe_int (pcall (c__law_draw T) (hr.mono (by omega)) (pa_cons (pv 1) (pa_cons pe_int pa_nil)))))
      (pss_cons (ps_par (i := 3) (j := 4) rfl sc_law.nd rfl rfl (by decide) rfl rfl (pa_cons (pcall (c__law_land T) (hr.mono (by omega)) (pa_cons (pv 1) (pa_cons (pv 2) pa_nil))) (pa_cons (pcall (c__law_wants T) (hr.mono (by omega)) (pa_cons (pv 1) (pa_cons (pv 2) (pa_cons pe_int pa_nil)))) pa_nil)) rfl)
      (pss_cons (ps_set (i := 5) sc_law.nd rfl (Or.inl rfl) (pcall (c_land_text T) (hr.mono (by omega)) (pa_cons (pv 3) (pa_cons (pv 4) pa_nil))))
      (pss_cons (ps_if (PW.pt (pw_or (pt_cmpR op_ne (pv 5) (pcall (c__law_text T) (hr.mono (by omega)) (pa_cons (pv 3) (pa_cons (pv 4) pa_nil))) (nomark _)) (pw_or1 (pt_cmpR (neDt K hr.units) (pcallS (c_land_read T R S) (hr.mono (by omega)) (passAt takesNo) (pa_cons (pv 5) pa_nil)) (pe_tup (pa_cons (pv 3) (pa_cons (pv 4) pa_nil))) (nomark _))))) (pss_one (ps_ret pe_bl)) pss_nil)
      (pss_cons (ps_set (i := 6) sc_law.nd rfl (Or.inl rfl) (pe_lst pa_nil))
      (pss_cons (ps_for PassesOwn.never rfl (pi_range1 rfl T.b_range (pa_cons (pcall (c__law_draw T) (hr.mono (by omega)) (pa_cons (pv 1) (pa_cons pe_int pa_nil))) pa_nil)) (pg_name (i := 7) sc_law.nd rfl (Or.inl rfl)) (pss_one (ps_expr (pe_bm PySem.F.plainAttrs_list PySem.F.slot_list_append PySem.F.type_list_append mt_append (pv 6) (pa_cons (pe_tup (pa_cons (pcall (c__law_pick T) (hr.mono (by omega)) (pa_cons (pv 1) (pa_cons (pe_lst (pa_cons pe_str (pa_cons pe_str (pa_cons pe_str pa_nil)))) pa_nil))) (pa_cons (pcall (c__law_draw T) (hr.mono (by omega)) (pa_cons (pv 1) (pa_cons pe_int pa_nil))) (pa_cons (pcall (c__law_draw T) (hr.mono (by omega)) (pa_cons (pv 1) (pa_cons pe_int pa_nil))) pa_nil)))) pa_nil)))))
      (pss_cons (ps_set (i := 8) sc_law.nd rfl (Or.inl rfl) (pcallS (c_plan_text T R S) (hr.mono (by omega)) (passAt takesNo) (pa_cons (pv 6) pa_nil)))
      (pss_cons (ps_if (PW.pt (pw_or (pt_cmpR op_ne (pv 8) (pcall (c__law_words T) (hr.mono (by omega)) (pa_cons (pv 6) pa_nil)) (nomark _)) (pw_or1 (pt_cmpR (neDt K hr.units) (pcallS (c_plan_read T R S) (hr.mono (by omega)) (passAt takesNo) (pa_cons (pv 8) pa_nil)) (pv 6) (nomark _))))) (pss_one (ps_ret pe_bl)) pss_nil)
      (pss_cons (ps_for PassesOwn.never rfl (pi_range1 rfl T.b_range (pa_cons pe_int pa_nil)) (pg_name (i := 9) sc_law.nd rfl (Or.inl rfl)) (pss_one (ps_for PassesOwn.never rfl (piL K (pe_lst (pa_cons pe_int (pa_cons pe_int pa_nil)))) (pg_name (i := 10) sc_law.nd rfl (Or.inl rfl)) (pss_cons (ps_set (i := 11) sc_law.nd rfl (Or.inl rfl) (pe_ix (ixL K) (pe_lst (pa_cons (pv 5) (pa_cons (pv 8) pa_nil))) (pv 10) (fun _ _ => rfl)))
      (pss_cons (ps_set (i := 12) sc_law.nd rfl (Or.inl rfl) (pcall (c__law_draw T) (hr.mono (by omega)) (pa_cons (pv 1) (pa_cons (pe_op op_add (pe_callB call_len_str rfl T.b_len PySem.boot_len (pa_cons (pv 11) pa_nil)) pe_int) pa_nil))))
      (pss_cons (ps_set (i := 13) sc_law.nd rfl (Or.inl rfl) (pcall (c__law_pick T) (hr.mono (by omega)) (pa_cons (pv 1) (pa_cons (pe_lst (pa_cons pe_str (pa_cons pe_str (pa_cons pe_str (pa_cons pe_str (pa_cons pe_str (pa_cons pe_str (pa_cons pe_str (pa_cons pe_str (pa_cons pe_str (pa_cons pe_str (pa_cons pe_str pa_nil)))))))))))) pa_nil))))
      (pss_cons (ps_set (i := 14) sc_law.nd rfl (Or.inl rfl) (pcall (c__law_pick T) (hr.mono (by omega)) (pa_cons (pv 1) (pa_cons (pe_lst (pa_cons (pe_op op_add_str (pe_op op_add_str (pe_slice sl_str (pv 11) po_none (po_some (pv 12))) (pv 13)) (pe_slice sl_str (pv 11) (po_some (pe_op op_add (pv 12) pe_int)) po_none)) (pa_cons (pe_op op_add_str (pe_op op_add_str (pe_slice sl_str (pv 11) po_none (po_some (pv 12))) (pv 13)) (pe_slice sl_str (pv 11) (po_some (pv 12)) po_none)) pa_nil))) pa_nil))))
      (pss_cons (ps_set (i := 15) sc_law.nd rfl (Or.inl rfl) (pcall (c__law_read T R S) (hr.mono (by omega)) (pa_cons (pv 10) (pa_cons (pv 14) pa_nil))))
      (pss_cons (ps_set (i := 16) sc_law.nd rfl (Or.inl rfl) (pe_ifExp (pt_cmpR (eqDt K hr.units) (pv 15) pe_str (nomark _)) (pv 14) (pe_ifExp (pt_cmpR op_eq (pv 10) pe_int (nomark _)) (pcall (c__law_text T) (hr.mono (by omega)) (pa_cons (pe_ix (ixT K) (pv 15) pe_int (fun _ _ => rfl)) (pa_cons (pe_ix (ixT K) (pv 15) pe_int (fun _ _ => rfl)) pa_nil))) (pcall (c__law_words T) (hr.mono (by omega)) (pa_cons (pv 15) pa_nil)))))
      (pss_one (ps_if (pt_cmpR op_ne (pv 16) (pv 14) (nomark _)) (pss_one (ps_ret pe_bl)) pss_nil)))))))))))
      (pss_one (ps_ret (pcall0 (c__law_none T R S) (hr.mono (by omega))))))))))))))), ?_⟩
    refine ⟨_, rfl, sc, ns, rfl, hS, fun t n H1 hT1 s1 => ?_⟩
    refine ⟨_, rfl, t, n, 9, rfl, hT1, by decide, by decide, fun r H2 hr2 hT2 s2 => ⟨_, _, rfl, rfl, ?_⟩⟩
    dsimp only [gName]
    show tSeq (tPar 3 4 _) _ _ [some (.ref sc), some (.ref t), some (.int (1 + ((r : Nat) : Int))), none, none, none, none, none, none, none, none, none, none, none, none, none, none] H2
    rw [show (1 : Int) + ((r : Nat) : Int) = ((r + 1 : Nat) : Int) by omega]
    refine ⟨_, rfl, _, rfl, t, n, r, rfl, hT2, by omega, fun a L H3 hLl wf hLa hT3 s3 => ?_⟩
    refine ⟨_, rfl, _, rfl, t, n, r + 1, 999, rfl, hT3, by omega, by decide, by decide, fun d W H4 hWl hWu hWd hT4 s4 => ?_⟩
    have hA4 := hT3.t s4 hLa
    have wo : WantsOk W := fun i u e => hWu u (List.mem_of_getElem? e)
    have h30 : L.length < 30 := by omega
    have hwl : W.length = L.length + 1 := by omega
    have hLW := landW_of h30 wf hwl wo
    refine ⟨_, _, rfl, ?_⟩
    dsimp only
    show tSeq (tAsg _ _) _ _ [some (.ref sc), some (.ref t), some (.int ((r + 1 : Nat) : Int)), some (.ref a), some (.ref d), none, none, none, none, none, none, none, none, none, none, none, none] H4
    -- the text
    refine ⟨_, rfl, _, rfl, a, d, L, W, rfl, hA4, hWd, h30, wf, hwl, wo, fun H5 s5 => ?_⟩
    have htx : (landL (headA L) W).length ≤ 120 := by
      unfold landL
      have h1 := joinL_len 10 11 (List.zipWith rowL (headA L) W) fun p hp => by
        obtain ⟨i, hi, rfl⟩ := List.mem_iff_getElem.mp hp
        rw [List.getElem_zipWith]
        exact rowL_len (fun n hn => hLW.a n (by rw [← hn]; exact List.getElem_mem _)) (fun n hn => hLW.w n (by rw [← hn]; exact List.getElem_mem _))
      rw [List.length_zipWith, headA_len] at h1
      have : min (L.length + 1) W.length ≤ 9 := by omega
      have h2 : min (L.length + 1) W.length * (11 + 1) ≤ 9 * 12 := Nat.mul_le_mul_right _ this
      omega
    generalize hx : landL (headA L) W = tx at htx
    have hT5 := hT4.same s5
    have hA5 := same_t s5 hA4
    have hW5 := same_t s5 hWd
    dsimp only [gName]
    show tSeq (tIfS _ _ _) _ _ [some (.ref sc), some (.ref t), some (.int ((r + 1 : Nat) : Int)), some (.ref a), some (.ref d), some (.str (mkS tx)), none, none, none, none, none, none, none, none, none, none, none] H5
    refine if_no (fun H' => Same H5 H') (fun Q' q' => ?_) (fun H6 s6 => ?_)
    · refine or_no (fun H' => Same H5 H') (fun Q'' q'' => ?_) (fun Hb sb => ?_)
      · refine ⟨_, rfl, _, rfl, _, rfl, a, d, headA L, W, rfl, by rw [headA_V]; exact hA5, hW5, hLW, fun H' s' => ?_⟩
        rw [hx]
        exact ⟨by show true = true; rfl, _, rfl, by rw [decide_eq_true rfl]; exact q'' _ s'⟩
      · refine ⟨_, rfl, _, rfl, .inl ⟨tx, rfl, by omega, fun A2 W2 h2 t2 a2 d2 H' s' k1 k2 k3 => ?_, fun hn => ?_⟩⟩
        · rw [← hx, readF_land h30 wf hwl wo] at h2
          obtain ⟨rfl, rfl⟩ := Prod.mk.inj (Option.some.inj h2)
          refine ⟨_, rfl, _, rfl, by show 2 ≤ sizeLine; decide, fun p np => ?_⟩
          have u := same_new (o := .tup [.ref a, .ref d]) np
          have hs' := sb.trans (s'.trans u)
          refine ne_sameD (dp_two (same_t u k1) (same_t u k2) (same_t u k3)) (dp_two (sqt upd_same) (by rw [headA_V]; exact same_t hs' hA5) (same_t hs' hW5)) (shaped_two _ _) ⟨false, rfl, q' _ hs'⟩
        · rw [← hx, readF_land h30 wf hwl wo] at hn
          cases hn
    have hT6 := hT5.same s6
    clear hA5 hW5 hA4 hWd hLa s6 s5 s4 s3 s2 hT5 hT4 hT3 hT2 hT1
    -- the deeds
    refine ⟨Nat.zero_le _, fun dl ndl => ?_⟩
    obtain ⟨dt, dn⟩ := hT6.fresh ndl
    have hT7 := hT6.same (same_new (o := .lst []) ndl)
    have hd7 : (upd H6 dl (.lst [])) dl = some (.lst []) := upd_same
    generalize upd H6 dl (.lst []) = H7 at hT7 hd7
    dsimp only [gName]
    show tSeq (tFor _ _ _) _ _ [some (.ref sc), some (.ref t), some (.int ((r + 1 : Nat) : Int)), some (.ref a), some (.ref d), some (.str (mkS tx)), some (.ref dl), none, none, none, none, none, none, none, none, none, none] H7
    refine ⟨_, rfl, t, n, 8, rfl, hT7, by decide, by decide, fun m H8 hm hT8 s8 => ⟨_, rfl, by omega, by omega, ?_⟩⟩
    rw [show ((m : Nat) : Int).toNat = m by omega]
    have hd8 := s8 _ _ dt dn hd7
    refine for_it walk_range (fun i σ H' => ∃ z ts ds, σ = [some (.ref sc), some (.ref t), some (.int ((r + 1 : Nat) : Int)), some (.ref a), some (.ref d), some (.str (mkS tx)), some (.ref dl), z, none, none, none, none, none, none, none, none, none] ∧ Town t n H' ∧ H' dl = some (.lst (ts.map V.ref)) ∧ Paired (fun x e => SqT K H' x (deedT e)) ts ds ∧ ts.length = i ∧ ∀ e ∈ ds, DOk e)
      ⟨none, [], [], rfl, hT8, hd8, .nil, rfl, fun e he => by cases he⟩ (fun _ _ _ _ _ => trivial) (fun i v σ H9 H10 hi p y => ?_) (fun σ H9 p => ?_)
    · obtain ⟨z, ts, ds, rfl, hT9, hd9, hpp, hti, hok⟩ := p
      obtain ⟨rfl, rfl⟩ := y
      dsimp only
      rw [Int.zero_add]
      refine ⟨_, rfl, .inl ⟨rfl, _, sql hd9⟩, ?_⟩
      refine ⟨_, rfl, by show 3 ≤ sizeLine; decide, fun kl nkl => ?_⟩
      have u1 := same_new (o := .lst [.str "go", .str "take", .str "lay"]) nkl
      have hTa := hT9.same u1
      obtain ⟨kt, kn⟩ := hT9.fresh nkl
      refine ⟨t, n, kl, _, rfl, hTa, upd_same, kt, kn, by show 1 ≤ 3; decide, by show 3 < 1000; decide, fun x Hb hxm hTb sb => ?_⟩
      refine ⟨_, rfl, t, n, 6, rfl, hTb, by decide, by decide, fun c Hc hc hTc sc' => ?_⟩
      refine ⟨_, rfl, t, n, 100000, rfl, hTc, by decide, by decide, fun nn Hd hnn hTd sd => ?_⟩
      obtain ⟨k, hk3, rfl⟩ : ∃ k, k < 3 ∧ x = .str (kindS k) := by
        simp only [List.mem_cons, List.not_mem_nil, or_false] at hxm
        rcases hxm with rfl | rfl | rfl
        · exact ⟨0, by decide, rfl⟩
        · exact ⟨1, by decide, rfl⟩
        · exact ⟨2, by decide, rfl⟩
      refine ⟨by show 3 ≤ sizeLine; decide, fun tp ntp => ?_⟩
      have u2 := same_new (o := .tup [.str (kindS k), .int ((c : Nat) : Int), .int ((nn : Nat) : Int)]) ntp
      have ts9 : TSame t n H10 Hd := (tsame_of u1).trans (sb.trans (sc'.trans sd))
      have hdd := ts9 _ _ dt dn hd9
      have hTe := hTd.same u2
      have hde : (upd Hd tp (.tup [.str (kindS k), .int ((c : Nat) : Int), .int ((nn : Nat) : Int)])) dl = some (.lst (ts.map V.ref)) := u2 _ _ hdd
      have hte : SqT K (upd Hd tp (.tup [.str (kindS k), .int ((c : Nat) : Int), .int ((nn : Nat) : Int)])) tp (deedT (k, c, nn)) := sqt upd_same
      have hppe : Paired (fun x e => SqT K (upd Hd tp (.tup [.str (kindS k), .int ((c : Nat) : Int), .int ((nn : Nat) : Int)])) x (deedT e)) ts ds := paired_imp hpp fun _ _ z => same_t u2 (hT9.t ts9 z)
      show ∃ l xs v, _
      refine ⟨dl, _, _, rfl, rfl, hde, ?_, ?_⟩
      · rw [List.length_map]
        exact Nat.lt_of_le_of_lt (show ts.length ≤ 1000 by omega) (small1000 (Nat.le_refl _))
      generalize (upd Hd tp (.tup [.str (kindS k), .int ((c : Nat) : Int), .int ((nn : Nat) : Int)])) = He at hTe hde hte hppe
      have up : ∀ {b : Addr} {xs : List V}, SqT K He b xs → SqT K (upd He dl (.lst (ts.map V.ref ++ [.ref tp]))) b xs := fun {b xs} h => by
        rcases h with (e | ⟨o, e⟩) | e
        · exact .inl (.inl (by rw [upd_ne (ne_of e hde (fun z => nomatch z))]; exact e))
        · exact .inl (.inr ⟨o, by rw [upd_ne (ne_of e hde (fun z => nomatch z))]; exact e⟩)
        · exact .inr e
      refine ⟨_, ts ++ [tp], ds ++ [(k, c, nn)], rfl, hTe.upd dt dn, by rw [upd_same, List.map_append]; rfl, paired_snoc (paired_imp hppe fun _ _ z => up z) (up hte), by rw [List.length_append, hti]; rfl, fun e he => ?_⟩
      rcases List.mem_append.mp he with he | he
      · exact hok e he
      · rw [List.mem_singleton.mp he]
        exact ⟨hk3, hc, hnn⟩
    obtain ⟨z7, ts, ds, rfl, hT9, hd9, hpp, hti, hok⟩ := p
    have hdl : ds.length ≤ 7 := by
      have := Paired.length hpp
      omega
    have hP9 : PlanT K H9 dl ds := ⟨ts, sql hd9, hpp⟩
    -- their text
    refine ⟨_, rfl, _, rfl, .inl ⟨dl, ds, rfl, hP9, by omega, hok, fun H10 s10 => ?_⟩⟩
    have hwd : (planL ds).length ≤ 56 := by
      unfold planL
      have h1 := joinL_len 32 7 (ds.map wordL) fun p hp => by
        obtain ⟨e, he, rfl⟩ := List.mem_map.mp hp
        exact wordL_len (hok e he)
      rw [List.length_map] at h1
      have h2 : ds.length * (7 + 1) ≤ 7 * 8 := Nat.mul_le_mul_right _ hdl
      omega
    have hpF : planF (planL ds) = some ds := planF_plan hok
    have hpB : ∀ l, l = planL ds → planF l = some ds := fun l e => by rw [e]; exact hpF
    generalize hwx : planL ds = wd at hwd hpF
    have hT10 := hT9.same s10
    have hP10 := hP9.same s10
    dsimp only [gName]
    show tSeq (tIfS _ _ _) _ _ [some (.ref sc), some (.ref t), some (.int ((r + 1 : Nat) : Int)), some (.ref a), some (.ref d), some (.str (mkS tx)), some (.ref dl), z7, some (.str (mkS wd)), none, none, none, none, none, none, none, none] H10
    refine if_no (fun H' => Same H10 H') (fun Q' q' => ?_) (fun H11 s11 => ?_)
    · refine or_no (fun H' => Same H10 H') (fun Q'' q'' => ?_) (fun Hb sb => ?_)
      · refine ⟨_, rfl, _, rfl, dl, ds, rfl, hP10, by omega, hok, fun H' s' => ?_⟩
        rw [hwx]
        exact ⟨by show true = true; rfl, _, rfl, by rw [decide_eq_true rfl]; exact q'' _ s'⟩
      · refine ⟨_, rfl, _, rfl, .inl ⟨wd, rfl, by omega, fun ds2 h2 pl H' s' _ hP' => ?_, fun hn => by rw [hpF] at hn; cases hn⟩⟩
        rw [hpF] at h2
        cases h2
        exact ⟨_, rfl, ne_sameD (dp_plan hP') (dp_plan (hP10.same (sb.trans s'))) (shaped_plan _) ⟨false, rfl, q' _ (sb.trans s')⟩⟩
    have hT11 := hT10.same s11
    clear hP10 hP9 hpp hd9 hT10 hT9 s10 s11 hpB
    -- the turns
    refine ⟨8, rfl, by omega, by omega, ?_⟩
    refine for_it walk_range (fun i σ H' => ∃ z9 z10 z11 z12 z13 z14 z15 z16, σ = [some (.ref sc), some (.ref t), some (.int ((r + 1 : Nat) : Int)), some (.ref a), some (.ref d), some (.str (mkS tx)), some (.ref dl), z7, some (.str (mkS wd)), z9, z10, z11, z12, z13, z14, z15, z16] ∧ Town t n H')
      ⟨none, none, none, none, none, none, none, none, rfl, hT11⟩ (fun _ _ _ _ _ => trivial) (fun i v σ H12 H13 hi p y => ?_) (fun σ H12 p => ?_)
    · obtain ⟨z9, z10, z11, z12, z13, z14, z15, z16, rfl, hT12⟩ := p
      obtain ⟨rfl, rfl⟩ := y
      dsimp only
      rw [Int.zero_add]
      refine ⟨by show 2 ≤ sizeLine; decide, fun kl nkl => ?_⟩
      have u1 := same_new (o := .lst [V.int 0, V.int 1]) nkl
      obtain ⟨kt, kn⟩ := hT12.fresh nkl
      have hTa := hT12.same u1
      have hkl : (upd H13 kl (.lst [V.int 0, V.int 1])) kl = some (.lst [V.int 0, V.int 1]) := upd_same
      generalize upd H13 kl (.lst [V.int 0, V.int 1]) = Ha at hTa hkl
      refine ⟨kl, rfl, ⟨_, sql hkl⟩, ?_⟩
      refine for_it (walk_list (xs := [V.int 0, V.int 1])) (fun j σ H' => ∃ z10 z11 z12 z13 z14 z15 z16, σ = [some (.ref sc), some (.ref t), some (.int ((r + 1 : Nat) : Int)), some (.ref a), some (.ref d), some (.str (mkS tx)), some (.ref dl), z7, some (.str (mkS wd)), some (.int ((i : Nat) : Int)), z10, z11, z12, z13, z14, z15, z16] ∧ Town t n H' ∧ H' kl = some (.lst [V.int 0, V.int 1]))
        ⟨z10, z11, z12, z13, z14, z15, z16, rfl, hTa, hkl⟩ (fun _ _ _ _ p => by obtain ⟨_, _, _, _, _, _, _, _, _, h⟩ := p; exact sql h) (fun j v σ Hb Hc hj p y => ?_) (fun σ Hb p => ?_)
      · obtain ⟨z10, z11, z12, z13, z14, z15, z16, rfl, hTb, hkb⟩ := p
        obtain ⟨rfl, hv⟩ := y
        have hj : j < 2 := hj
        have ev : v = .int ((j : Nat) : Int) := by
          match j, hj, hv with
          | 0, _, h => exact (Option.some.inj h).symm
          | 1, _, h => exact (Option.some.inj h).symm
        subst ev
        obtain ⟨ow, how⟩ : ∃ ow, ow = if j = 0 then tx else wd := ⟨_, rfl⟩
        have hol : ow.length ≤ 120 := by rw [how]; split <;> omega
        dsimp only
        -- own
        refine ⟨_, rfl, _, rfl, by show 2 ≤ sizeLine; decide, fun l1 m1 => ?_⟩
        have t1 := same_new (o := .lst [.str (mkS tx), .str (mkS wd)]) m1
        have hat : ([.str (mkS tx), .str (mkS wd)] : List V)[j]? = some (.str (mkS ow)) := by
          match j, hj, how with
          | 0, _, h => rw [h]; rfl
          | 1, _, h => rw [h]; rfl
        refine ⟨_, rfl, l1, _, _, _, rfl, rfl, sql upd_same, atI_nat hat, ?_⟩
        have hTc := hTb.same t1
        have hkc := t1 _ _ hkb
        generalize (upd Hc l1 (.lst [.str (mkS tx), .str (mkS wd)])) = Hd at hTc hkc
        dsimp only [gName]
        show tSeq (tAsg _ _) _ _ [some (.ref sc), some (.ref t), some (.int ((r + 1 : Nat) : Int)), some (.ref a), some (.ref d), some (.str (mkS tx)), some (.ref dl), z7, some (.str (mkS wd)), some (.int ((i : Nat) : Int)), some (.int ((j : Nat) : Int)), some (.str (mkS ow)), z12, z13, z14, z15, z16] Hd
        -- at
        refine ⟨_, rfl, _, rfl, mkS ow, rfl, by rw [mkS_len]; exact size1e4 (by omega), _, _, rfl, rfl, ?_⟩
        refine ⟨t, n, ow.length + 1, (by show [V.ref t, V.int (((mkS ow).length : Int) + 1)] = [V.ref t, V.int ((ow.length + 1 : Nat) : Int)]; rw [mkS_len]; rfl), hTc, by omega, by omega, fun at_ He hat_ hTe se => ?_⟩
        have hke := se _ _ kt kn hkc
        dsimp only [gName]
        show tSeq (tAsg _ _) _ _ [some (.ref sc), some (.ref t), some (.int ((r + 1 : Nat) : Int)), some (.ref a), some (.ref d), some (.str (mkS tx)), some (.ref dl), z7, some (.str (mkS wd)), some (.int ((i : Nat) : Int)), some (.int ((j : Nat) : Int)), some (.str (mkS ow)), some (.int ((at_ : Nat) : Int)), z13, z14, z15, z16] He
        -- mark
        refine ⟨_, rfl, by show 11 ≤ sizeLine; decide, fun l2 m2 => ?_⟩
        obtain ⟨k2t, k2n⟩ := hTe.fresh m2
        have t2 := same_new (o := .lst [.str "0", .str "1", .str "9", .str "-", .str ":", .str ".", .str "\n", .str ">", .str "+", .str " ", .str ""]) m2
        refine ⟨t, n, l2, _, rfl, hTe.same t2, upd_same, k2t, k2n, by show 1 ≤ 11; decide, by show 11 < 1000; decide, fun mk Hf hmk hTf sf => ?_⟩
        obtain ⟨ms, rfl, hms⟩ := mark_of hmk
        have hkf := sf _ _ kt kn (t2 _ _ hke)
        dsimp only [gName]
        show tSeq (tAsg _ _) _ _ [some (.ref sc), some (.ref t), some (.int ((r + 1 : Nat) : Int)), some (.ref a), some (.ref d), some (.str (mkS tx)), some (.ref dl), z7, some (.str (mkS wd)), some (.int ((i : Nat) : Int)), some (.int ((j : Nat) : Int)), some (.str (mkS ow)), some (.int ((at_ : Nat) : Int)), some (.str ms), z14, z15, z16] Hf
        -- other
        have cl : ∀ lo hi, (cutS (mkS ow) lo hi).length ≤ 120 := fun lo hi => by
          have := cutS_length (mkS ow) lo hi
          rw [mkS_len] at this
          omega
        have szz : (mkS ow).length ≤ sizeLine := by rw [mkS_len]; exact size1e4 (by omega)
        refine ⟨_, rfl, _, rfl, _, rfl, _, rfl, mkS ow, rfl, szz, _, rfl, _, _, rfl, rfl, ?_, ?_⟩
        · have := cl none (some ((at_ : Nat) : Int))
          exact size1e4 (by omega)
        refine ⟨_, rfl, _, rfl, _, _, rfl, rfl, _, rfl, ?_⟩
        dsimp only [tNoPart]
        refine ⟨mkS ow, rfl, szz, _, _, rfl, rfl, ?_, ?_⟩
        · have h1 := cl none (some ((at_ : Nat) : Int))
          have h2 := cl (some (((at_ : Nat) : Int) + 1)) none
          rw [str_app_len]
          exact size1e4 (by omega)
        refine ⟨_, rfl, _, rfl, _, rfl, mkS ow, rfl, szz, _, rfl, _, _, rfl, rfl, ?_, ?_⟩
        · have := cl none (some ((at_ : Nat) : Int))
          exact size1e4 (by omega)
        refine ⟨_, rfl, _, rfl, _, rfl, ?_⟩
        dsimp only [tNoPart]
        refine ⟨mkS ow, rfl, szz, _, _, rfl, rfl, ?_, ?_⟩
        · have h1 := cl none (some ((at_ : Nat) : Int))
          have h2 := cl (some ((at_ : Nat) : Int)) none
          rw [str_app_len]
          exact size1e4 (by omega)
        refine ⟨by show 2 ≤ sizeLine; decide, fun l3 m3 => ?_⟩
        obtain ⟨k3t, k3n⟩ := hTf.fresh m3
        have t3 := same_new (o := .lst [.str (cutS (mkS ow) none (some ((at_ : Nat) : Int)) ++ ms ++ cutS (mkS ow) (some (((at_ : Nat) : Int) + 1)) none), .str (cutS (mkS ow) none (some ((at_ : Nat) : Int)) ++ ms ++ cutS (mkS ow) (some ((at_ : Nat) : Int)) none)]) m3
        refine ⟨t, n, l3, _, rfl, hTf.same t3, upd_same, k3t, k3n, by show 1 ≤ 2; decide, by show 2 < 1000; decide, fun ot Hg hot hTg sg => ?_⟩
        have hkg := sg _ _ kt kn (t3 _ _ hkf)
        obtain ⟨ol, rfl, holl⟩ : ∃ ol, ot = .str (mkS ol) ∧ ol.length ≤ 300 := by
          have h1 := cl none (some ((at_ : Nat) : Int))
          have h2 := cl (some (((at_ : Nat) : Int) + 1)) none
          have h3 := cl (some ((at_ : Nat) : Int)) none
          simp only [List.mem_cons, List.not_mem_nil, or_false] at hot
          rcases hot with rfl | rfl
          · refine ⟨_, congrArg V.str (mkS_tl _).symm, ?_⟩
            rw [← len_tl, str_app_len, str_app_len]
            omega
          · refine ⟨_, congrArg V.str (mkS_tl _).symm, ?_⟩
            rw [← len_tl, str_app_len, str_app_len]
            omega
        dsimp only [gName]
        show tSeq (tAsg _ _) _ _ [some (.ref sc), some (.ref t), some (.int ((r + 1 : Nat) : Int)), some (.ref a), some (.ref d), some (.str (mkS tx)), some (.ref dl), z7, some (.str (mkS wd)), some (.int ((i : Nat) : Int)), some (.int ((j : Nat) : Int)), some (.str (mkS ow)), some (.int ((at_ : Nat) : Int)), some (.str ms), some (.str (mkS ol)), z15, z16] Hg
        -- told, again
        have stop : ∀ {x15 : Option V} {Hx : Hp} {D : Ends} , Town t n Hx → Hx kl = some (.lst [V.int 0, V.int 1]) → True := fun _ _ => trivial
        have jc : j = 0 ∨ j = 1 := by omega
        have textEnd : ∀ {Hx : Hp}, Same Hg Hx → PyData.strOk "text" = true := fun _ => by decide +kernel
        refine ⟨_, rfl, _, rfl, j, .str (mkS ol), rfl, .inr ⟨ol, rfl, by omega, ?_⟩⟩
        rcases jc with rfl | rfl
        · refine .inl ⟨rfl, fun A2 W2 h2 t2' a2 d2 Hx sx k1 k2 k3 => ?_, fun hn Hx sx => ?_⟩
          · obtain ⟨el, hLW2⟩ := readF_back h2
            refine ⟨_, rfl, _, _, dp_two k1 k2 k3, .str "text", shaped_two _ _, by decide +kernel, _, rfl, ?_⟩
            refine iteF ⟨_, rfl, rfl, _, rfl, iteT ?_⟩
            refine ⟨_, rfl, t2', _, _, _, rfl, rfl, k1, atI_nat (j := 0) rfl, _, rfl, t2', _, _, _, rfl, rfl, k1, atI_nat (j := 1) rfl, a2, d2, A2, W2, rfl, k2, k3, hLW2, fun Hy sy => ?_⟩
            rw [← el]
            refine ⟨_, rfl, _, rfl, by show true = true; rfl, _, rfl, ?_⟩
            rw [decide_eq_true rfl]
            exact iteF ⟨_, _, _, _, _, _, _, rfl, hTg.same (sx.trans sy), (sx.trans sy) _ _ hkg⟩
          · refine ⟨_, rfl, _, _, .str "text", .str "text", by decide +kernel, by decide +kernel, true, by kernel_rfl, iteT ⟨_, rfl, ?_⟩⟩
            refine ⟨_, rfl, _, rfl, by show true = true; rfl, _, rfl, ?_⟩
            rw [decide_eq_true rfl]
            exact iteF ⟨_, _, _, _, _, _, _, rfl, hTg.same sx, sx _ _ hkg⟩
        · refine .inr ⟨rfl, fun ds2 h2 pl Hx sx hP => ?_, fun hn Hx sx => ?_⟩
          · obtain ⟨el, hok2⟩ := planF_back h2
            have hln : ds2.length ≤ 1000 := by
              unfold planF at h2
              split at h2
              · cases h2
                exact Nat.zero_le _
              · have f2 := mapO_some h2
                have : ds2.length = (spl [32] 0 [] ol).length := by
                  clear h2 hP el hok2
                  generalize spl [32] 0 [] ol = ps at f2
                  induction f2 with
                  | nil => rfl
                  | cons _ _ ih => exact congrArg Nat.succ ih
                have := spl_len 32 ol []
                omega
            refine ⟨_, rfl, _, _, dp_plan hP, .str "text", shaped_plan _, by decide +kernel, _, rfl, ?_⟩
            refine iteF ⟨_, rfl, rfl, _, rfl, iteF ?_⟩
            refine ⟨_, rfl, pl, ds2, rfl, hP, hln, hok2, fun Hy sy => ?_⟩
            rw [← el]
            refine ⟨_, rfl, _, rfl, by show true = true; rfl, _, rfl, ?_⟩
            rw [decide_eq_true rfl]
            exact iteF ⟨_, _, _, _, _, _, _, rfl, hTg.same (sx.trans sy), (sx.trans sy) _ _ hkg⟩
          · refine ⟨_, rfl, _, _, .str "text", .str "text", by decide +kernel, by decide +kernel, true, by kernel_rfl, iteT ⟨_, rfl, ?_⟩⟩
            refine ⟨_, rfl, _, rfl, by show true = true; rfl, _, rfl, ?_⟩
            rw [decide_eq_true rfl]
            exact iteF ⟨_, _, _, _, _, _, _, rfl, hTg.same sx, sx _ _ hkg⟩
      · obtain ⟨z10, z11, z12, z13, z14, z15, z16, rfl, hTb, _⟩ := p
        exact ⟨_, _, _, _, _, _, _, _, rfl, hTb⟩
    · obtain ⟨z9, z10, z11, z12, z13, z14, z15, z16, rfl, hT12⟩ := p
      exact ⟨rfl, fun H' s' => q _⟩
end
end Oa
namespace Oa
open PySem PySem.Spec PyProof.Rows L2
theorem txtR {K : PySem.W.Frag} {h : Heap} {mg : Str → Option Value} (X : K.In h) (G : h.Ns mainGlobals mg) (c : He.SaysD hfa hfn K) : Txt K mg where
  d_is_whole := by obtain ⟨fd, F⟩ := c.def_ 1 (d := d_is_whole) rfl; exact ⟨_, fd, He.glo_ok X G (c.fact 8 (f := .glo "is_whole") rfl), F⟩
  d_is_land := by obtain ⟨fd, F⟩ := c.def_ 2 (d := d_is_land) rfl; exact ⟨_, fd, He.glo_ok X G (c.fact 9 (f := .glo "is_land") rfl), F⟩
  d_is_wants := by obtain ⟨fd, F⟩ := c.def_ 3 (d := d_is_wants) rfl; exact ⟨_, fd, He.glo_ok X G (c.fact 10 (f := .glo "is_wants") rfl), F⟩
  d_look_land := by obtain ⟨fd, F⟩ := c.def_ 4 (d := d_look_land) rfl; exact ⟨_, fd, He.glo_ok X G (c.fact 11 (f := .glo "look_land") rfl), F⟩
  d_land_text := by obtain ⟨fd, F⟩ := c.def_ 5 (d := d_land_text) rfl; exact ⟨_, fd, He.glo_ok X G (c.fact 12 (f := .glo "land_text") rfl), F⟩
  d_number_in := by obtain ⟨fd, F⟩ := c.def_ 6 (d := d_number_in) rfl; exact ⟨_, fd, He.glo_ok X G (c.fact 13 (f := .glo "number_in") rfl), F⟩
  d_land_read := by obtain ⟨fd, F⟩ := c.def_ 7 (d := d_land_read) rfl; exact ⟨_, fd, He.glo_ok X G (c.fact 14 (f := .glo "land_read") rfl), F⟩
  d_deed_text := by obtain ⟨fd, F⟩ := c.def_ 8 (d := d_deed_text) rfl; exact ⟨_, fd, He.glo_ok X G (c.fact 15 (f := .glo "deed_text") rfl), F⟩
  d_is_deed := by obtain ⟨fd, F⟩ := c.def_ 9 (d := d_is_deed) rfl; exact ⟨_, fd, He.glo_ok X G (c.fact 16 (f := .glo "is_deed") rfl), F⟩
  d_plan_text := by obtain ⟨fd, F⟩ := c.def_ 10 (d := d_plan_text) rfl; exact ⟨_, fd, He.glo_ok X G (c.fact 17 (f := .glo "plan_text") rfl), F⟩
  d_plan_read := by obtain ⟨fd, F⟩ := c.def_ 11 (d := d_plan_read) rfl; exact ⟨_, fd, He.glo_ok X G (c.fact 18 (f := .glo "plan_read") rfl), F⟩
  d__law_town := by obtain ⟨fd, F⟩ := c.def_ 12 (d := d__law_town) rfl; exact ⟨_, fd, He.glo_ok X G (c.fact 19 (f := .glo "_law_town") rfl), F⟩
  d__law_draw := by obtain ⟨fd, F⟩ := c.def_ 13 (d := d__law_draw) rfl; exact ⟨_, fd, He.glo_ok X G (c.fact 20 (f := .glo "_law_draw") rfl), F⟩
  d__law_pick := by obtain ⟨fd, F⟩ := c.def_ 14 (d := d__law_pick) rfl; exact ⟨_, fd, He.glo_ok X G (c.fact 21 (f := .glo "_law_pick") rfl), F⟩
  d__law_refusal := by obtain ⟨fd, F⟩ := c.def_ 15 (d := d__law_refusal) rfl; exact ⟨_, fd, He.glo_ok X G (c.fact 22 (f := .glo "_law_refusal") rfl), F⟩
  d__law_land := by obtain ⟨fd, F⟩ := c.def_ 16 (d := d__law_land) rfl; exact ⟨_, fd, He.glo_ok X G (c.fact 23 (f := .glo "_law_land") rfl), F⟩
  d__law_wants := by obtain ⟨fd, F⟩ := c.def_ 17 (d := d__law_wants) rfl; exact ⟨_, fd, He.glo_ok X G (c.fact 24 (f := .glo "_law_wants") rfl), F⟩
  d__law_text := by obtain ⟨fd, F⟩ := c.def_ 18 (d := d__law_text) rfl; exact ⟨_, fd, He.glo_ok X G (c.fact 25 (f := .glo "_law_text") rfl), F⟩
  d__law_words := by obtain ⟨fd, F⟩ := c.def_ 19 (d := d__law_words) rfl; exact ⟨_, fd, He.glo_ok X G (c.fact 26 (f := .glo "_law_words") rfl), F⟩
  d__law_read := by obtain ⟨fd, F⟩ := c.def_ 20 (d := d__law_read) rfl; exact ⟨_, fd, He.glo_ok X G (c.fact 27 (f := .glo "_law_read") rfl), F⟩
  d__law_written := by obtain ⟨fd, F⟩ := c.def_ 21 (d := d__law_written) rfl; exact ⟨_, fd, He.glo_ok X G (c.fact 28 (f := .glo "_law_written") rfl), F⟩
  d__law_none := by obtain ⟨fd, F⟩ := c.def_ 22 (d := d__law_none) rfl; exact ⟨_, fd, He.glo_ok X G (c.fact 29 (f := .glo "_law_none") rfl), F⟩
  d_law := by obtain ⟨fd, F⟩ := c.def_ 23 (d := d_law) rfl; exact ⟨_, fd, He.glo_ok X G (c.fact 30 (f := .glo "law") rfl), F⟩
  d_BadPlan___init__ := c.def_ 0 (d := d_BadPlan___init__) rfl
  b_ValueError := He.free_ok X G (c.fact 31 (f := .free "ValueError") rfl)
  b_all := He.free_ok X G (c.fact 32 (f := .free "all") rfl)
  b_any := He.free_ok X G (c.fact 33 (f := .free "any") rfl)
  b_bool := He.free_ok X G (c.fact 34 (f := .free "bool") rfl)
  b_int := He.free_ok X G (c.fact 35 (f := .free "int") rfl)
  b_isinstance := He.free_ok X G (c.fact 36 (f := .free "isinstance") rfl)
  b_len := He.free_ok X G (c.fact 37 (f := .free "len") rfl)
  b_list := He.free_ok X G (c.fact 38 (f := .free "list") rfl)
  b_range := He.free_ok X G (c.fact 39 (f := .free "range") rfl)
  b_str := He.free_ok X G (c.fact 40 (f := .free "str") rfl)
  b_tuple := He.free_ok X G (c.fact 41 (f := .free "tuple") rfl)
  i_MOST_PLACES := He.int_ok X G (c.fact 42 (f := .int "MOST_PLACES" 30) rfl)
  i_MOST_WANT := He.int_ok X G (c.fact 43 (f := .int "MOST_WANT" 999) rfl)
  i_MOST_DEEDS := He.int_ok X G (c.fact 44 (f := .int "MOST_DEEDS" 20000) rfl)
theorem errsR {K : PySem.W.Frag} {h : Heap} {mg : Str → Option Value} (X : K.In h) (G : h.Ns mainGlobals mg) (c : He.SaysD hfa hfn K) (m : errsB K = true) : Errs K mg := by
  refine errs_of m (fun x hx => ?_) (He.glo_ok X G (c.fact 0 (f := .glo "OatError") rfl))
  unfold errN at hx
  simp only [List.mem_cons, List.mem_nil_iff, or_false] at hx
  rcases hx with rfl | rfl | rfl | rfl | rfl | rfl | rfl
  · exact He.glo_ok X G (c.fact 1 (f := .glo "BadLand") rfl)
  · exact He.glo_ok X G (c.fact 2 (f := .glo "BadWorks") rfl)
  · exact He.glo_ok X G (c.fact 3 (f := .glo "BadWants") rfl)
  · exact He.glo_ok X G (c.fact 4 (f := .glo "BadPlan") rfl)
  · exact He.glo_ok X G (c.fact 5 (f := .glo "BadPaper") rfl)
  · exact He.glo_ok X G (c.fact 6 (f := .glo "BadText") rfl)
  · exact He.glo_ok X G (c.fact 7 (f := .glo "NoneSuch") rfl)
theorem signsR {w : World} {K : PySem.W.Frag} {h : Heap} {mg : Str → Option Value} (X : K.In h) (G : h.Ns mainGlobals mg) (ct : He.SaysT hfa hfn sgTabs w K) (m : sgB K = true) : Signs K w mg where
  g := He.glo_ok X G (ct.d.fact 45 (f := .glo "SIGNS") rfl)
  t := ⟨saysT_keys ct 0 (t := ((fun K => He.ga K "SIGNS"), sgKeys)) rfl, by decide⟩
  f := He.str_ok X G (ct.d.fact 46 (f := .str "FIGURES" "0123456789") rfl)
  v0 := He.valsB_ok (He.ba m).1 (q := ("go", .str ">")) (by unfold sgVals; simp)
  v1 := He.valsB_ok (He.ba m).1 (q := ("take", .str "+")) (by unfold sgVals; simp)
  v2 := He.valsB_ok (He.ba m).1 (q := ("lay", .str "-")) (by unfold sgVals; simp)
  no := He.eqO_ok (He.ba m).2
theorem factsR {P : Program} {w : World} {K : PySem.W.Frag} {h : Heap} {mg : Str → Option Value} {f : Addr} (X : K.In h) (G : h.Ns mainGlobals mg) (hfa' : mg ("law" : Str) = some (.ref f)) (c : He.SaysD hfa hfn K) (ct : He.SaysT hfa hfn sgTabs w K) (m : allB K = true) :
    ∃ fd : FuncData, (∀ (s : Shared) (v : Value), BindsTo s fd ⟨[v], []⟩ [("script", v)]) ∧ ∀ base : Heap, K.In base → base.Ns mainGlobals mg → FnOk P w K mg base CX0 8 f fd ["script"] (sp_law K) := by
  obtain ⟨fd, F⟩ := c.def_ 23 (d := d_law) rfl
  have T := txtR X G c
  have e := hfa'.symm.trans (He.glo_ok X G (c.fact 30 (f := .glo "law") rfl))
  cases e
  have b := FunD.bindsA (ps := ["script"]) F fun _ _ _ _ _ _ us hl => match us, hl with | [_], _ => rfl
  exact ⟨fd, fun s v => b s [v] rfl, fun base _ _ => ok_law T (errsR X G c (He.ba m).1) (signsR X G ct (He.ba m).2) F⟩
end Oa

open PySem PySem.W PySem.Calls PyProof.Rows
theorem PySem.Challenge.cw_oatroads_k11_whole_texts_holds : PySem.Challenge.rw_oatroads_k11_whole_texts.Holds := by
  refine hd (L2.walk_ofK (l := PySem.Challenge.rw_oatroads_k11_whole_texts) (n := 63) (k := 8) (x := "script") (CX := L2.CX0) (K := Oa.Kx) (sp := Oa.sp_law) rfl (by decide) (by kernel_rfl) ⟨rfl, by decide, by decide⟩ (fun w h Y => PySem.W.kIn_of Y) ?F (fun K H a ns hl _ hS => ⟨a, ns, rfl, hS, fun _ => rfl⟩) (fun _ _ _ _ z => z))
  intro w mg fa h KX G hmg0
  exact Oa.factsR (P := (PySem.Challenge.rw_oatroads_k11_whole_texts).prog) (w := w) KX G hmg0 (Oa.saysDR w.params) (Oa.saysTR w) (Oa.kf3 w.params)
