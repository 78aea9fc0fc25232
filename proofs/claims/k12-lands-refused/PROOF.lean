import PyProof.Rows.All
import Wide.All
import OpenK.AllK
import Wide.FinOn
import HandS.ForMost
import HandS.Flow
import HandS.IsInst
import HandS.Defaults
import HandS.Walk
import HandS.More
import HandS.TupAny
import HandS.SortRule
import HandS.TupMul
import HandS.DictComp
import HandS.DeepEq
import KE.DataMinMax
import KE.SortData
import HandS.HeadHook1
import HandS.ForExc
import HandS.ExcIs
import HandS.CallSlots
import HandS.HeadHook4
import HandS.SetFor
import HandS.TupLe
import HandS.Style
import HandS.Flt
import HandS.SortInts
import HandS.SortOrd
import HandS.Strs
import HandS.Comp
import HandS.ExcInit
import HandS.ExcField
import KE.GoesEnum
import KE.GoesMore
import HandS.Iter
import KE.KStateDown
import HandS.Ends
import HandS.Words
import HandS.WordsExc
import HandS.Head0
import HandS.Head1
import HandS.Head2
import HandS.HeadEnd
import HandS.HeadHook2
import HandS.HeadHook3
import PySem.Challenge.RW_oatroads_k12_lands_refused
set_option Elab.async false
set_option linter.all false
set_option maxRecDepth 100000
set_option maxHeartbeats 0
namespace Oa
open PySem PySem.Spec PyProof.Rows L2

/-! ### defs of the top, and calls of them -/
section
variable (P : Program) (w : World) (K : PySem.W.Frag) (mg : Str → Option Value) (base : Heap)
/-- a def of the top as it stands -/
def Dfn (x : Str) (st : Stmt) (kws : List (Str × V)) : Prop := ∃ f fd, mg x = some (.ref f) ∧ FunD K x x (defArgs st) (defBody st) (defScope st) [] kws f fd
/-- it can be called by positions, and keeps its promise -/
def Cal (CX : CXT) (k : Nat) (x : Str) (ps : List Str) (sp : Sp) : Prop :=
  ∃ f fd, mg x = some (.ref f) ∧ PySem.W.keepIn K (.ref f) = true ∧ Binds K fd ps [] ∧ FnOk P w K mg base CX k f fd ps sp
end
section
variable {P : Program} {w : World} {K : PySem.W.Frag} {mg : Str → Option Value} {base : Heap}
theorem Cal.mono {CX : CXT} {j k : Nat} {x : Str} {ps : List Str} {sp : Sp} (c : Cal P w K mg base CX j x ps sp) (h : j ≤ k) : Cal P w K mg base CX k x ps sp := by
  obtain ⟨f, fd, g, kp, b, F⟩ := c
  exact ⟨f, fd, g, kp, b, F.mono h⟩
theorem Cal.imp {CX : CXT} {k : Nat} {x : Str} {ps : List Str} {sp sp' : Sp} (c : Cal P w K mg base CX k x ps sp) (h : ∀ vs H Q E, sp' vs H Q E → sp vs H Q E) : Cal P w K mg base CX k x ps sp' := by
  obtain ⟨f, fd, g, kp, b, F⟩ := c
  exact ⟨f, fd, g, kp, b, F.imp h⟩
/-- the body of a def that lets nothing out -/
theorem cal0 {x : Str} {st : Stmt} {N ps : List Str} {k : Nat} {sp : Sp} (D : Dfn K mg x st []) (S : FnScope N ps (defScope st))
    (bnd : ∀ (kV doc pm : Value) (an : Option Addr) (cdv ct : Value) (us : List Value), us.length = ps.length → bindArgs (PySem.W.fnOf x x (defArgs st) (defBody st) (defScope st) .none kV doc pm an cdv ct) ⟨us, []⟩ = pure (ps.zip us))
    (len : ∀ vs H Q E, sp vs H Q E → vs.length = ps.length)
    (hbody : ∀ (f : Addr) (cdv : Value) (A : Around) (outer : List Env) (s : Shared) (H : Hp) (vs : List V) (Q : VK) (E : XK), Room k (A.deeper (envOfC x (defScope st) s.heap.objs.size f cdv)) → sp vs H Q E →
      ∃ t, PSs (cxOf CX0 P w K mg base N x (defScope st) f cdv A outer s H E).nox (defBody st) t ∧ t { nx := fun _ H' => Q .non H', rt := Q } (start N vs) H) : Cal P w K mg base CX0 (k + 1) x ps sp := by
  obtain ⟨f, fd, g, F⟩ := D
  refine ⟨f, fd, g, F.kp, F.bindsN bnd, F.ok S len fun cdv A outer s H vs Q E hr h => ?_⟩
  obtain ⟨t, h1, h2⟩ := hbody f cdv A outer s H vs Q E hr h
  exact ⟨t, h1.nox, h2⟩
theorem none_left {CX : CXT} {x : Str} {st : Stmt} {ps : List Str} {sp : Sp} (D : Dfn K mg x st [])
    (bnd : ∀ (kV doc pm : Value) (an : Option Addr) (cdv ct : Value) (us : List Value), us.length = ps.length → bindArgs (PySem.W.fnOf x x (defArgs st) (defBody st) (defScope st) .none kV doc pm an cdv ct) ⟨us, []⟩ = pure (ps.zip us))
    (no : ∀ vs H Q E, ¬ sp vs H Q E) : Cal P w K mg base CX 0 x ps sp := by
  obtain ⟨f, fd, g, F⟩ := D
  exact ⟨f, fd, g, F.kp, F.bindsN bnd, ⟨fun vs H Q E h => absurd h (no vs H Q E), fun A outer s H args us vs Q E _ _ _ _ h => absurd h (no vs H Q E)⟩⟩
end
section
variable {X : Cx} {k : Nat} {x : Str} {ps : List Str} {sp : Sp} {e : Expr} {es : List Expr} {t : TA} {p pos : Pos}
/-- f(e, ..), f lets nothing out -/
theorem pcall (c : Cal X.prog X.w X.K X.mg X.base CX0 k x ps sp) (hr : Room k X.A) (ha : PA X (e :: es) t) (hg : Gl X x := by rfl)
    (hdb : (x == ("__debug__" : Str)) = false := by decide) (he : starEach (e :: es) X.env = (false, eval e X.env) :: starEach es X.env := by rfl) (hpl : (backTo pos (starEach es X.env)).any (·.1) = false := by rfl) :
    PE X (.Call (.Name x p) (e :: es) [] pos) (tCall sp [] E0 t) := by
  obtain ⟨f, fd, g, kp, b, F⟩ := c
  exact pe_call F hr hg g kp b .nil pass0 ha hdb he hpl
end

/-! ### defs with one keyword-only parameter that has a default -/
section
variable (P : Program) (w : World) (K : PySem.W.Frag) (mg : Str → Option Value) (base : Heap)
/-- it can be called with the keyword kw, or without it; n values by position -/
def CalK (CX : CXT) (k : Nat) (x : Str) (ps : List Str) (n : Nat) (kw : Str) (dv : V) (sp : Sp) : Prop :=
  ∃ f fd, mg x = some (.ref f) ∧ PySem.W.keepIn K (.ref f) = true ∧ KBn K fd ps n [kw] (fun us ws => us ++ ws) (fun vs zs => vs ++ zs) ∧ (∃ ds, Vals [dv] ds ∧ Binds K fd ps ds) ∧ FnOk P w K mg base CX k f fd ps sp
end
section
variable {P : Program} {w : World} {K : PySem.W.Frag} {mg : Str → Option Value} {base : Heap}
theorem calK {CX : CXT} {x kw : Str} {dv : V} {st : Stmt} {N ps : List Str} {k n : Nat} {sp : Sp} (D : Dfn K mg x st [(kw, dv)]) (S : FnScope N ps (defScope st)) (hn : n + 1 = ps.length)
    (bk : ∀ (D : Addr) (doc pm : Value) (an : Option Addr) (cdv ct : Value) (us ws : List Value), us.length = n → ws.length = 1 → bindArgs (PySem.W.fnOf x x (defArgs st) (defBody st) (defScope st) .none (.ref D) doc pm an cdv ct) ⟨us, [kw].zip ws⟩ = pure (ps.zip (us ++ ws)))
    (bd : ∀ (D : Addr) (doc pm : Value) (an : Option Addr) (cdv ct : Value) (us ks : List Value), us.length = n → ks.length = 1 → KwChain D ([kw].zip ks) (bindArgs (PySem.W.fnOf x x (defArgs st) (defBody st) (defScope st) .none (.ref D) doc pm an cdv ct) ⟨us, []⟩) (ps.zip (us ++ ks)))
    (len : ∀ vs H Q E, sp vs H Q E → vs.length = ps.length)
    (hbody : ∀ (f : Addr) (cdv : Value) (A : Around) (outer : List Env) (s : Shared) (H : Hp) (vs : List V) (Q : VK) (E : XK), Room k (A.deeper (envOfC x (defScope st) s.heap.objs.size f cdv)) → sp vs H Q E →
      ∃ t, PSs (cxOf CX P w K mg base N x (defScope st) f cdv A outer s H E) (defBody st) t ∧ t { nx := fun _ H' => Q .non H', rt := Q } (start N vs) H) : CalK P w K mg base CX (k + 1) x ps n kw dv sp := by
  obtain ⟨f, fd, g, F⟩ := D
  refine ⟨f, fd, g, F.kp, ?_, ?_, F.ok S len fun cdv A outer s H vs Q E hr h => hbody f cdv A outer s H vs Q E hr h⟩
  · obtain ⟨oc, od, dV, kV, doc, pm, an, cdv, ct, osl, rfl, lk, hcd, hD, hK⟩ := F.ex
    rcases hD with ⟨_, rfl⟩ | ⟨e, _⟩
    · rcases hK with e | ⟨D, rfl, hq⟩
      · cases e
      · exact ⟨fun s us ws _ l1 l2 => .of_eq (bk D doc pm an cdv ct us ws l1 l2), fun r1 r2 => r1.append r2⟩
    · exact absurd rfl e
  · exact F.binds0 n (fun e => by cases e) hn (fun D doc pm an cdv ct us ks l1 l2 => bd D doc pm an cdv ct us ks l1 l2)
end
section
variable {X : Cx} {CX : CXT} {k n : Nat} {x kw : Str} {dv : V} {ps : List Str} {sp : Sp} {e ek : Expr} {es : List Expr} {t : TA} {te : TE} {p pos kpos : Pos} {E : XK}
/-- f(e, .., kw = v) -/
theorem pcallK (c : CalK X.prog X.w X.K X.mg X.base CX k x ps n kw dv sp) (hr : Room k X.A) (hx : Passes CX X E) (ha : PA X (e :: es) t) (hk : PE X ek te) (hg : Gl X x := by rfl) 
    (hall : (backToKw pos (keywordEach [⟨some kw, ek, kpos⟩] X.env)).all (·.1.isSome) = true := by rfl) (hks : (backToKw pos (keywordEach [⟨some kw, ek, kpos⟩] X.env)).filterMap (·.1) = [kw] := by rfl)
    (hdb : (x == ("__debug__" : Str)) = false := by decide) (he : starEach (e :: es) X.env = (false, eval e X.env) :: starEach es X.env := by rfl)
    (hpl : ((backTo pos (starEach (e :: es) X.env)).any (·.1) || (backToKw pos (keywordEach [⟨some kw, ek, kpos⟩] X.env)).any (·.1.isNone)) = false := by rfl) :
    PE X (.Call (.Name x p) (e :: es) [⟨some kw, ek, kpos⟩] pos) (tCallN n 1 sp (fun vs zs => vs ++ zs) E t (tCons te tNil)) := by
  obtain ⟨f, fd, g, kp, b, _, F⟩ := c
  exact pe_callN F hr hg g kp b hx ha (pk_cons hk pk_nil) hall hks hdb he hpl
/-- f(e, ..), kw left out -/
theorem pcallD (c : CalK X.prog X.w X.K X.mg X.base CX k x ps n kw dv sp) (hr : Room k X.A) (hx : Passes CX X E) (ha : PA X (e :: es) t) (hg : Gl X x := by rfl)
    (hdb : (x == ("__debug__" : Str)) = false := by decide) (he : starEach (e :: es) X.env = (false, eval e X.env) :: starEach es X.env := by rfl) (hpl : (backTo pos (starEach es X.env)).any (·.1) = false := by rfl) :
    PE X (.Call (.Name x p) (e :: es) [] pos) (tCall sp [dv] E t) := by
  obtain ⟨f, fd, g, kp, _, ⟨ds, hv, b⟩, F⟩ := c
  exact pe_call F hr hg g kp b hv hx ha hdb he hpl
end

/-! ### heaps -/
theorem same_new {H : Hp} {p : Addr} {o : HO} (h : H p = none) : Same H (upd H p o) := fun b x e => by
  rw [upd_ne (ne_of_none e h)]
  exact e
/-- an object that H does not know may change -/
theorem same_mut {H H' : Hp} {p : Addr} {o : HO} (e : Same H H') (h : H p = none) : Same H (upd H' p o) := fun a u ha => by
  rw [upd_ne (ne_of_none ha h)]
  exact e a u ha
/-- for readers: what is there to be read, locked or not -/
def NFz (u : HO) : Prop := ∀ o v, u ≠ .frz o v
theorem nf_t {xs : List V} : NFz (.tup xs) := fun _ _ e => nomatch e
theorem nf_l {xs : List V} : NFz (.lst xs) := fun _ _ e => nomatch e
theorem nf_d {xs : List (Key × V)} : NFz (.dK xs) := fun _ _ e => nomatch e
def Ext (H H' : Hp) : Prop := ∀ a u, NFz u → Rd H a u → Rd H' a u
theorem Ext.refl (H : Hp) : Ext H H := fun _ _ _ h => h
theorem Ext.trans {H H1 H2 : Hp} (a : Ext H H1) (b : Ext H1 H2) : Ext H H2 := fun c o n h => b c o n (a c o n h)
theorem ext_of {H H' : Hp} (e : Same H H') : Ext H H' := fun a u _ h => by
  rcases h with h | ⟨o, h⟩
  · exact .inl (e _ _ h)
  · exact .inr ⟨o, e _ _ h⟩
theorem Ext.l {K : PySem.W.Frag} {H H' : Hp} {a : Addr} {xs : List V} (e : Ext H H') (h : SqL K H a xs) : SqL K H' a xs := by
  rcases h with h | h
  · exact .inl (e _ _ nf_l h)
  · exact .inr h
theorem Ext.t {K : PySem.W.Frag} {H H' : Hp} {a : Addr} {xs : List V} (e : Ext H H') (h : SqT K H a xs) : SqT K H' a xs := by
  rcases h with h | h
  · exact .inl (e _ _ nf_t h)
  · exact .inr h
theorem Ext.d {H H' : Hp} {a : Addr} {xs : List (Key × V)} (e : Ext H H') (h : Rd H a (.dK xs)) : Rd H' a (.dK xs) := e _ _ nf_d h
theorem same_t {K : PySem.W.Frag} {H H' : Hp} {a : Addr} {xs : List V} (e : Same H H') (h : SqT K H a xs) : SqT K H' a xs := (ext_of e).t h
theorem same_l {K : PySem.W.Frag} {H H' : Hp} {a : Addr} {xs : List V} (e : Same H H') (h : SqL K H a xs) : SqL K H' a xs := (ext_of e).l h
theorem sqt {K : PySem.W.Frag} {H : Hp} {a : Addr} {xs : List V} (h : H a = some (.tup xs)) : SqT K H a xs := .inl (.inl h)
theorem sql {K : PySem.W.Frag} {H : Hp} {a : Addr} {xs : List V} (h : H a = some (.lst xs)) : SqL K H a xs := .inl (.inl h)
/-- locks -/
theorem lock_ext {H : Hp} {d : Addr} {u : HO} {od : Obj} (hd : H d = some u) (nf : NFz u) : Ext H (upd H d (.frz od u)) := fun a v _ h => by
  by_cases e : a = d
  · subst e
    rcases h with h | ⟨o, h⟩
    · rw [hd] at h
      cases h
      exact .inr ⟨od, upd_same⟩
    · rw [hd] at h
      cases h
      exact absurd rfl (nf _ _)
  · rcases h with h | ⟨o, h⟩
    · exact .inl (by rw [upd_ne e]; exact h)
    · exact .inr ⟨o, by rw [upd_ne e]; exact h⟩
theorem unlock_ext {H : Hp} {d : Addr} {u : HO} {od : Obj} (hd : H d = some (.frz od u)) : Ext H (upd H d u) := fun a v n h => by
  by_cases e : a = d
  · subst e
    rcases h with h | ⟨o, h⟩
    · rw [hd] at h
      cases h
      exact absurd rfl (n _ _)
    · rw [hd] at h
      cases h
      exact .inl upd_same
  · rcases h with h | ⟨o, h⟩
    · exact .inl (by rw [upd_ne e]; exact h)
    · exact .inr ⟨o, by rw [upd_ne e]; exact h⟩
theorem lock_same {H H' : Hp} {d : Addr} {u : HO} {od : Obj} (hd : H d = some u) (s : Same (upd H d (.frz od u)) H') : Same H (upd H' d u) := fun a v h => by
  by_cases e : a = d
  · subst e
    rw [hd] at h
    cases h
    exact upd_same
  · rw [upd_ne e]
    exact s a v (by rw [upd_ne e]; exact h)

/-! ### comprehensions: which turns give, and what is true of what they give -/
def SameBut (D : Addr) (H H' : Hp) : Prop := ∀ b o, b ≠ D → H b = some o → H' b = some o
theorem same_but {D : Addr} {H H' : Hp} (s : Same H H') : SameBut D H H' := fun b o _ e => s b o e
theorem paired_snoc {α β : Type} {R : α → β → Prop} : ∀ {xs : List α} {ys : List β} {x : α} {y : β}, Paired R xs ys → R x y → Paired R (xs ++ [x]) (ys ++ [y])
  | _, _, _, _, .nil, h => .cons h .nil
  | _, _, _, _, .cons a b, h => .cons a (paired_snoc b h)
theorem paired_imp {α β : Type} {R S : α → β → Prop} : ∀ {xs : List α} {ys : List β}, Paired R xs ys → (∀ x y, R x y → S x y) → Paired S xs ys
  | _, _, .nil, _ => .nil
  | _, _, .cons a b, h => .cons (h _ _ a) (paired_imp b h)
theorem lc_rel {J : It} {n : Nat} {G : Hp → Prop} {Y : Nat → Hp → V → Hp → Prop} (w : Walk J n G Y) {tt : TT} {te : TE} {vs : List Nat} {σ : L2.St} {j : Nat} {H1 : Hp} {D : Addr} {Qd : Hp → Prop} (hD : H1 D = none) (hn : n ≤ 1000)
    (hG : ∀ H, Same H1 H → G H) (f : Nat → Bool) (R : Nat → V → Hp → Prop) (mono : ∀ i v H H' l, H D = some (.lst l) → SameBut D H H' → R i v H → R i v H')
    (step : ∀ i x H2 H3 l, i < n → Same H1 H2 → H2 D = some (.lst l) → Y i H2 x H3 → Same H2 H3 ∧ wipe ((wipe σ vs).set j (some x)) vs = wipe σ vs ∧
      (∀ Q : Bool → Hp → Prop, (∀ H4, Same H3 H4 → Q (f i) H4) → tt ((wipe σ vs).set j (some x)) H3 Q) ∧
      (f i = true → ∀ H4, Same H3 H4 → ∀ Q : VK, (∀ v H5, Same H4 H5 → R i v H5 → Q v H5) → te ((wipe σ vs).set j (some x)) H4 Q))
    (q : ∀ ys H2, Same H1 H2 → H2 D = some (.lst ys) → Paired (fun i v => R i v H2) ((List.range n).filter f) ys → Qd H2) :
    ∃ W : Nat → Nat → Hp → Prop, (∃ m, W 0 m (upd H1 D (.lst []))) ∧ ∀ i m H, W i m H →
      (J.stop i H ∧ Qd H) ∨ (J.go i H ∧ ∃ Nx : Hp → Prop, (∀ H', Nx H' → ∃ m', m' < m ∧ W (i + 1) m' H') ∧ ∀ x H', J.yld i H x H' → gName j x (wipe σ vs) H' fun σ2 H2 => wipe σ2 vs = wipe σ vs ∧ tt σ2 H2 fun b H3 =>
        if b = true then te σ2 H3 fun y H4 => ∃ acc, H4 D = some (.lst acc) ∧ acc.length < sizeLine ∧ Nx (upd H4 D (.lst (acc ++ [y]))) else Nx H3) := by
  refine lc_it w (g := gName j) (Qd := Qd) (fun i H => Same H1 H ∧ ∃ ys, H D = some (.lst ys) ∧ ys.length ≤ i ∧ Paired (fun i v => R i v H) ((List.range i).filter f) ys)
    ⟨same_new hD, [], upd_same, Nat.le_refl _, .nil⟩ (fun i H _ p => hG H p.1) (fun i x H2 H3 hi p y => ?_) (fun H p => ?_)
  · obtain ⟨s1, ys, hy, hl, hp⟩ := p
    obtain ⟨s2, e, h1, h2⟩ := step i x H2 H3 ys hi s1 hy y
    refine ⟨e, h1 _ fun H4 s3 => ?_⟩
    have hy4 : H4 D = some (.lst ys) := s3 _ _ (s2 _ _ hy)
    cases hf : f i with
    | true =>
      show te _ H4 _
      refine h2 hf H4 s3 _ fun v H5 s4 r => ?_
      have hy5 : H5 D = some (.lst ys) := s4 _ _ hy4
      have ss : Same H2 H5 := s2.trans (s3.trans s4)
      have sb : SameBut D H5 (upd H5 D (.lst (ys ++ [v]))) := fun b o hb eb => by rw [upd_ne hb]; exact eb
      refine ⟨ys, hy5, Nat.lt_of_lt_of_le (show ys.length < 1001 by omega) (by decide), same_mut (s1.trans ss) hD, ys ++ [v], upd_same, by simp; omega, ?_⟩
      rw [List.range_succ, List.filter_append, show [i].filter f = [i] by simp [hf]]
      exact paired_snoc (paired_imp hp fun k u z => mono k u _ _ _ hy5 sb (mono k u _ _ _ hy (same_but ss) z)) (mono i v _ _ _ hy5 sb r)
    | false =>
      show Same H1 H4 ∧ _
      refine ⟨s1.trans (s2.trans s3), ys, hy4, by omega, ?_⟩
      rw [List.range_succ, List.filter_append, show [i].filter f = [] by simp [hf], List.append_nil]
      exact paired_imp hp fun k u z => mono k u _ _ _ hy (same_but (s2.trans s3)) z
  · obtain ⟨s1, ys, hy, _, hp⟩ := p
    exact q ys H s1 hy hp

/-! ### rules with the written part told -/
section
variable {X : Cx}
theorem ixT (K : PySem.W.Frag) (h : X.K = K := by rfl) : IxR X (rIxT K) := by subst h; exact ix_tup
theorem ixL (K : PySem.W.Frag) (h : X.K = K := by rfl) : IxR X (rIxL K) := by subst h; exact ix_list
theorem lenS (K : PySem.W.Frag) (h : X.K = K := by rfl) : CallR X (.builtin "len") (fun xs H Q => ∃ p ys, xs = [.ref p] ∧ (SqL K H p ys ∨ SqT K H p ys) ∧ Q (.int ys.length) H) := by subst h; exact call_len_seq
theorem isi (K : PySem.W.Frag) (h : X.K = K := by rfl) : CallR X (.builtin "isinstance") (rIsi K) := by subst h; exact call_isi
theorem allL (K : PySem.W.Frag) (hc : X.calm = true) (h : X.K = K := by rfl) : CallR X (.builtin "all") (rAll K) := by subst h; exact cr_all hc
theorem anyL (K : PySem.W.Frag) (hc : X.calm = true) (h : X.K = K := by rfl) : CallR X (.builtin "any") (rAny K) := by subst h; exact cr_any hc
theorem sumI (K : PySem.W.Frag) (hc : X.calm = true) (h : X.K = K := by rfl) : CallR X (.builtin "sum") (rSum K) := by subst h; exact cr_sum hc
theorem minI (K : PySem.W.Frag) (hc : X.calm = true) (h : X.K = K := by rfl) : CallR X (.builtin "min") (rMin K) := by subst h; exact cr_min hc
theorem maxI (K : PySem.W.Frag) (hc : X.calm = true) (h : X.K = K := by rfl) : CallR X (.builtin "max") (rMax K) := by subst h; exact cr_max hc
theorem srtPO (K : PySem.W.Frag) (h : X.K = K := by rfl) : CallR X (.builtin "sorted") (rSortedPO K) := by subst h; exact cr_sortedPO
theorem catA (K : PySem.W.Frag) (h : X.K = K := by rfl) : OpR X (binaryOp .Add) (rCatA K) := by subst h; exact op_catA
theorem slA (K : PySem.W.Frag) (h : X.K = K := by rfl) : SlR X (rSlA K) := by subst h; exact sl_tupA
theorem slL (K : PySem.W.Frag) (h : X.K = K := by rfl) : SlR X (rSlL K) := by subst h; exact sl_list
theorem repT (K : PySem.W.Frag) (h : X.K = K := by rfl) : OpR X (binaryOp .Mult) (rRepT K) := by subst h; exact op_repT
theorem inS (K : PySem.W.Frag) (h : X.K = K := by rfl) : OpR X (compareOp .In) (rIn K false) := by subst h; exact op_in_seq
theorem ninS (K : PySem.W.Frag) (h : X.K = K := by rfl) : OpR X (compareOp .NotIn) (rIn K true) := by subst h; exact op_notIn_seq
theorem eqDt (K : PySem.W.Frag) (hu : X.A.units + 64 < cLine) (h : X.K = K := by rfl) : OpR X (compareOp .Eq) (rEqD K) := by subst h; exact op_eqD hu
theorem neDt (K : PySem.W.Frag) (hu : X.A.units + 64 < cLine) (h : X.K = K := by rfl) : OpR X (compareOp .NotEq) (rNeD K) := by subst h; exact op_neD hu
theorem listOf (K : PySem.W.Frag) (h : X.K = K := by rfl) : CallR X (.type "list") (fun xs H Q => ∃ p ys, xs = [.ref p] ∧ (SqL K H p ys ∨ SqT K H p ys) ∧ ∀ l, H l = none → Q (.ref l) (upd H l (.lst ys))) := by subst h; exact call_list_of
theorem tupOf (K : PySem.W.Frag) (h : X.K = K := by rfl) : CallR X (.type "tuple") (fun xs H Q => ∃ p ys, xs = [.ref p] ∧ ((SqL K H p ys ∧ ∀ l, H l = none → Q (.ref l) (upd H l (.tup ys))) ∨ (SqT K H p ys ∧ Q (.ref p) H))) := by subst h; exact call_tuple_of
theorem piL (K : PySem.W.Frag) {tg l : Expr} {tl : TE} (hl : PE X l tl) (h : X.K = K := by rfl) : PI X tg l (iList K tl) := by subst h; exact pi_list hl
theorem piT (K : PySem.W.Frag) {tg l : Expr} {tl : TE} (hl : PE X l tl) (h : X.K = K := by rfl) : PI X tg l (iTup K tl) := by subst h; exact pi_tup hl
theorem peOrT (K : PySem.W.Frag) {a b : Expr} {rest : List Expr} {pos : Pos} {ta tb : TE} (ha : PE X a ta) (hb : PE X (.BoolOp .Or (b :: rest) pos) tb) (h : X.K = K := by rfl) : PE X (.BoolOp .Or (a :: b :: rest) pos) (tOrT K ta tb) := by subst h; exact pe_orT ha hb
end

/-! ### tests that leave the heap as it is -/
def T0 (t : TT) (σ : L2.St) (H : Hp) (b : Bool) : Prop := ∀ Q : Bool → Hp → Prop, Q b H → t σ H Q
section
variable {t u : TT} {σ : L2.St} {H : Hp} {a b : Bool} {tu tw : TS} {D : Ends} {ta tb : TE} {Q : VK}
theorem t0_and (h1 : T0 t σ H a) (h2 : a = true → T0 u σ H b) : T0 (tAnd t u) σ H (a && b) := fun Q q => h1 _ (by
  cases a with
  | true => exact h2 rfl Q q
  | false => exact q)
theorem t0_or (h1 : T0 t σ H a) (h2 : a = false → T0 u σ H b) : T0 (tOr t u) σ H (a || b) := fun Q q => h1 _ (by
  cases a with
  | true => exact q
  | false => exact h2 rfl Q q)
theorem t0_not (h : T0 t σ H a) : T0 (tNot t) σ H (!a) := fun Q q => h _ q
theorem t0_is (h : T0 t σ H a) (e : a = b) : T0 t σ H b := e ▸ h
theorem if0 (h : T0 t σ H b) (h1 : b = true → tu D σ H) (h2 : b = false → tw D σ H) : tIfS t tu tw D σ H := h _ (by
  cases b with
  | true => exact h1 rfl
  | false => exact h2 rfl)
theorem if0s {tr : TS} (h : T0 t σ H b) (h1 : b = true → tu { D with nx := tr D } σ H) (h2 : b = false → tw { D with nx := tr D } σ H) : tSeq (tIfS t tu tw) tr D σ H := if0 h h1 h2
theorem ifx0 (h : T0 t σ H b) (h1 : b = true → ta σ H Q) (h2 : b = false → tb σ H Q) : tIf t ta tb σ H Q := h _ (by
  cases b with
  | true => exact h1 rfl
  | false => exact h2 rfl)
end
end Oa
namespace Oat

/-! ### dicts with whole keys, as lists of pairs -/
def dput {α : Type} : List (Nat × α) → Nat → α → List (Nat × α)
  | [], k, v => [(k, v)]
  | (j, u) :: r, k, v => if j = k then (j, v) :: r else (j, u) :: dput r k v
def dget {α : Type} : List (Nat × α) → Nat → Option α
  | [], _ => none
  | (j, u) :: r, k => if j = k then some u else dget r k

/-! ### rows (sum, parting) and their order -/
def lexN : List Nat → List Nat → Bool
  | [], [] => false
  | [], _ :: _ => true
  | _ :: _, [] => false
  | x :: xs, y :: ys => if x = y then lexN xs ys else decide (x < y)
def rlt (a b : Int × List Nat) : Bool := if a.1 = b.1 then lexN a.2 b.2 else decide (a.1 < b.1)
def rmin (a b : Int × List Nat) : Int × List Nat := if rlt b a = true then b else a

abbrev Fnd := List (Nat × (Int × List Nat))
def addRow (left : Nat) (used : Nat) (u : Int × List Nat) (acc : Fnd) (s : Nat × Int) : Fnd :=
  if used + s.1 ≤ left then
    dput acc (used + s.1) (rmin ((dget acc (used + s.1)).getD (u.1 + s.2, u.2 ++ [s.1])) (u.1 + s.2, u.2 ++ [s.1]))
  else acc
def stepBest (left : Nat) (found : Fnd) (table : List (Nat × Int)) : Fnd :=
  found.foldl (fun acc e => table.foldl (addRow left e.1 e.2) acc) []
def bestF (ts : List (List (Nat × Int))) (left : Nat) : Fnd := ts.foldl (stepBest left) [(0, (0, []))]
def best (ts : List (List (Nat × Int))) (left : Nat) : Option (Int × List Nat) :=
  match bestF ts left with
  | [] => none
  | e :: r => some (r.foldl (fun m x => rmin m x.2) e.2)

/-! ### lands: L has the place ahead of each place but the base: of place i + 1 it is L[i] -/
def kids (L : List Nat) (p : Nat) : List Nat := ((List.range L.length).filter fun i => L.getD i 0 == p).map (· + 1)
def WfL (L : List Nat) : Prop := ∀ i, i < L.length → L.getD i 0 ≤ i

structure Case where
  L : List Nat
  room : Nat
  W : List (Option Nat)
  left : Nat

def wantN (W : List (Option Nat)) (p : Nat) : Int := match W.getD p none with
  | none => 0
  | some u => (u : Int)

def outF (room : Nat) (need : Int) (e : Nat) : Option Int :=
  if need ≤ (max e 1 : Nat) * ((room : Int) - 2) + e then some ((max e 1 : Nat) : Int)
  else if room = 2 then none else some (-(((e : Int) - need) / ((room : Int) - 2)))

def wantedF (L : List Nat) (W : List (Option Nat)) : Nat → Nat → Bool
  | 0, p => (W.getD p none).isSome
  | f + 1, p => (W.getD p none).isSome || (kids L p).any (wantedF L W f)
def wanted (L : List Nat) (W : List (Option Nat)) (p : Nat) : Bool := wantedF L W L.length p

structure TRow where
  tk : Int
  out : Int
  back : Int
  part : List Nat

/-- what is taken for a place, given its need and the parting -/
def takenOf (c : Case) (p : Nat) (n : Int × List Nat) (e : Nat) : Option TRow :=
  if p = 0 then some ⟨n.1, 0, 0, n.2⟩
  else if e = 0 ∧ wanted c.L c.W p = false then some ⟨0, 0, 0, n.2⟩
  else (outF c.room n.1 e).map fun o => ⟨n.1 + 2 * o - e, o, o - e, n.2⟩
def needOf (W : List (Option Nat)) (p : Nat) (ts : List (List (Nat × Int))) (left : Nat) : Option (Int × List Nat) := (best ts left).map fun e => (e.1 + wantN W p, e.2)
def rowOf (c : Case) (p : Nat) (ts : List (List (Nat × Int))) (e : Nat) : Option TRow := (needOf c.W p ts e).bind fun n => takenOf c p n e
abbrev Tab := List (Nat × TRow)
def tabOf (c : Case) (p : Nat) (ts : List (List (Nat × Int))) : Tab := (List.range (c.left + 1)).filterMap fun e => (rowOf c p ts e).map fun r => (e, r)
def takes (t : Tab) : List (Nat × Int) := t.map fun x => (x.1, x.2.tk)
def tabF (c : Case) : Nat → Nat → Tab
  | 0, _ => []
  | f + 1, p => tabOf c p ((kids c.L p).map fun k => takes (tabF c f k))
def tab (c : Case) (p : Nat) : Tab := tabF c (c.L.length + 1) p

/-! ### the least of a table -/
def plt (a b : Int × Nat) : Bool := if a.1 = b.1 then decide (a.2 < b.2) else decide (a.1 < b.1)
def pmin (a b : Int × Nat) : Int × Nat := if plt b a = true then b else a
def bestL (tb : List (Nat × Int)) : Option (Int × Nat) := match tb with
  | [] => none
  | x :: r => some (r.foldl (fun m y => pmin m (y.2, y.1)) (x.2, x.1))
def least (c : Case) : Option Int := (bestL (takes (tab c 0))).map (·.1)

/-! ### kids -/
theorem mem_kids {L : List Nat} {p k : Nat} : k ∈ kids L p ↔ ∃ i, i < L.length ∧ L.getD i 0 = p ∧ k = i + 1 := by
  unfold kids
  simp only [List.mem_map, List.mem_filter, List.mem_range, beq_iff_eq]
  constructor
  · rintro ⟨i, ⟨h1, h2⟩, rfl⟩; exact ⟨i, h1, h2, rfl⟩
  · rintro ⟨i, h1, h2, rfl⟩; exact ⟨i, ⟨h1, h2⟩, rfl⟩
theorem kids_gt {L : List Nat} (w : WfL L) {p k : Nat} (h : k ∈ kids L p) : p < k ∧ k ≤ L.length := by
  obtain ⟨i, h1, h2, rfl⟩ := mem_kids.mp h
  have := w i h1
  omega
theorem tabF_stable {c : Case} (w : WfL c.L) : ∀ (f g p : Nat), c.L.length + 1 ≤ f + p → c.L.length + 1 ≤ g + p → p ≤ c.L.length → tabF c f p = tabF c g p
  | 0, _, p, h, _, hp => by omega
  | f + 1, 0, p, _, h, hp => by omega
  | f + 1, g + 1, p, hf, hg, hp => by
    unfold tabF
    congr 1
    refine List.map_congr_left fun k hk => ?_
    have := kids_gt w hk
    rw [tabF_stable w f g k (by omega) (by omega) (by omega)]
theorem tab_eq {c : Case} (w : WfL c.L) {p : Nat} (hp : p ≤ c.L.length) : tab c p = tabOf c p ((kids c.L p).map fun k => takes (tab c k)) := by
  show tabOf c p _ = _
  congr 1
  refine List.map_congr_left fun k hk => ?_
  have := kids_gt w hk
  show takes (tabF c c.L.length k) = takes (tabF c (c.L.length + 1) k)
  rw [tabF_stable w c.L.length (c.L.length + 1) k (by omega) (by omega) (by omega)]
theorem tabF_tab {c : Case} (w : WfL c.L) {f p : Nat} (hp : p ≤ c.L.length) (hf : c.L.length + 1 ≤ f + p) : tabF c f p = tab c p :=
  tabF_stable w f _ p hf (by omega) hp
theorem wantedF_stable {L : List Nat} {W : List (Option Nat)} (w : WfL L) : ∀ (f g p : Nat), L.length ≤ f + p → L.length ≤ g + p → p ≤ L.length → wantedF L W f p = wantedF L W g p
  | 0, 0, p, _, _, _ => rfl
  | 0, g + 1, p, h, _, hp => by
    unfold wantedF
    have : kids L p = [] := by
      apply List.eq_nil_iff_forall_not_mem.mpr
      intro k hk
      have := kids_gt w hk
      omega
    rw [this]; simp
  | f + 1, 0, p, _, h, hp => by
    unfold wantedF
    have : kids L p = [] := by
      apply List.eq_nil_iff_forall_not_mem.mpr
      intro k hk
      have := kids_gt w hk
      omega
    rw [this]; simp
  | f + 1, g + 1, p, hf, hg, hp => by
    unfold wantedF
    congr 1
    have h : ∀ k ∈ kids L p, wantedF L W f k = wantedF L W g k := fun k hk => by
      have := kids_gt w hk
      exact wantedF_stable w f g k (by omega) (by omega) (by omega)
    rw [Bool.eq_iff_iff, List.any_eq_true, List.any_eq_true]
    constructor
    · rintro ⟨k, hk, e⟩; exact ⟨k, hk, by rw [← h k hk]; exact e⟩
    · rintro ⟨k, hk, e⟩; exact ⟨k, hk, by rw [h k hk]; exact e⟩
theorem wanted_eq {L : List Nat} {W : List (Option Nat)} (w : WfL L) {p : Nat} (hp : p ≤ L.length) : wanted L W p = ((W.getD p none).isSome || (kids L p).any (wanted L W)) := by
  show wantedF L W L.length p = _
  rw [wantedF_stable w L.length (L.length + 1) p (by omega) (by omega) hp]
  rfl

end Oat
namespace PySem.W
open PySem PySem.SeqAt PyProof.Rows
section
variable {prog : Program} {w : World} {A : Around} {E : Value → Shared → Prop} {s : Shared}
/-- min(a, b), compared where a heap stands -/
theorem oa_min_two {a b : Value} {Q : Value → Shared → Prop}
    (h : wpAny (model prog w) A.in1 (pyIter (.ref s.heap.objs.size)) (fun it s₂ => ∃ I fp wr G n P St H bt, it = .ref I ∧ WalksS prog w A.in1 I fp wr G n P St ∧ St 0 s₂ ∧ (∀ b ∈ fp, b < s₂.heap.objs.size) ∧ 0 < n ∧
      (∀ b o, H.get? b = some o → b ∉ wr) ∧ (∀ b o, H.get? b = some o → s₂.heap.get? b = some o) ∧ CmpIn prog w A.in1 .Lt H P bt ∧ ∀ v s', P (argBest bt (n - 1)) v → Moved wr G s₂ s' → Q v s') E
      { s with heap := s.heap.push { cls := .type "tuple", data := .seq #[a, b] } }) :
    wpAny (model prog w) A (call (.builtin "min") [a, b]) Q E s := by
  have hname : (toString "min" ++ toString ".loop" : String) = "min.loop" := by decide
  refine call_function_tree F.kind_min F.plain_min F.entry_min (F.args_min2 _ _) ?_
  show wpAny _ A.in1 (Builtin.Builtins.bindParams "min" ["key", "default"] 0 ⟨[], []⟩ >>= _) _ _ s
  refine wpAny_bind (wpAny_of_eq (show Builtin.Builtins.bindParams "min" ["key", "default"] 0 ⟨[], []⟩ = pure [none, none] from rfl) ?_)
  show wpAny _ A.in1 (newTuple [a, b] >>= _) _ _ s
  refine wpAny_bind (wpAny_newObj_type ?_)
  refine wpAny_bind (wpAny_mono h (fun it s₂ h₂ => ?_) fun _ _ e => e)
  obtain ⟨I, fp, wr, G, n, P, St, H, bt, rfl, W, hst, hfp, hn, hw, hkeep, hcmp, hQ⟩ := h₂
  refine wpAny_bind (wpAny_newObj_type ?_)
  have hSf : s₂.heap.objs.size ∉ fp := fun hm => Nat.lt_irrefl _ (hfp _ hm)
  rw [hname]
  refine wpAny_pure ⟨plainId_quiet F.plain_min_loop _, codeAny_min_loop_firstH W H hw bt hcmp s₂.heap.objs.size hSf (fresh_in hkeep) _ hn (fun b o e => Heap.get?_push_of_some _ (hkeep b o e)) (W.frame 0 s₂ _ s₂.toks hst (Nat.le_refl _) fun b _ o e => Heap.get?_push_of_some _ e) (Heap.get?_push_size _ rfl) fun v s' hP hm => ?_⟩
  exact hQ v s' hP (Moved.drop_new (tk := s₂.toks) hm (Nat.le_refl _))
theorem oa_min_data {a b : Value} {da db : PyData} {as bs : List Addr} {Q : Value → Shared → Prop} (hh : A.handled = none) (ra : Reads s.heap a da as) (rb : Reads s.heap b db bs) (ha : AlikeAll [da, db]) (hu : A.units + 1 + PyData.depthAll [da, db] < cLine)
    (h : ∀ h' tk, (∀ c o, s.heap.get? c = some o → h'.get? c = some o) → Q (if dataLt db da = true then b else a) { s with heap := h', toks := tk }) :
    wpAny (model prog w) A (call (.builtin "min") [a, b]) Q E s := by
  have hT : (s.heap.push { cls := .type "tuple", data := .seq #[a, b] }).IsTuple s.heap.objs.size #[a, b] := ⟨_, Heap.get?_push_size _ rfl, rfl, 0, rfl⟩
  have k0 : ∀ c o, s.heap.get? c = some o → (s.heap.push { cls := .type "tuple", data := .seq #[a, b] }).get? c = some o := fun c o e => Heap.get?_push_of_some _ e
  have hr : ReadsAll (s.heap.push { cls := .type "tuple", data := .seq #[a, b] }) (#[a, b] : Array Value).toList [da, db] _ := .cons (Reads.keeps k0 ra) (.cons (Reads.keeps k0 rb) .nil)
  refine oa_min_two (iter_tupleW (A := A.in1) (s := { s with heap := s.heap.push { cls := .type "tuple", data := .seq #[a, b] } }) hh hT fun s₂ e W st hfp hw hk => ?_)
  refine ⟨_, _, _, _, _, _, _, s.heap.push { cls := .type "tuple", data := .seq #[a, b] }, _, rfl, W, st, hfp, Nat.succ_pos 1, hw, hk, cmpIn_lt (s := { s with heap := s.heap.push { cls := .type "tuple", data := .seq #[a, b] } }) (A := A.in1) hr ha (by show A.units + 1 + _ < _; exact hu), fun v s' hP m => ?_⟩
  obtain ⟨h', tk, rfl, hk'⟩ := moved_old e rfl m
  have q := h h' tk fun c o ec => hk' c o (k0 c o ec)
  have ev : v = if dataLt db da = true then b else a := by
    have hP' : (#[a, b] : Array Value)[argBest (fun i j => dataLt ([da, db].getD i .none) ([da, db].getD j .none)) 1]? = some v := hP
    have eb : argBest (fun i j => dataLt ([da, db].getD i .none) ([da, db].getD j .none)) 1 = if dataLt db da = true then 1 else 0 := by
      simp only [argBest]
      rfl
    rw [eb] at hP'
    by_cases c : dataLt db da = true
    · rw [if_pos c] at hP' ⊢
      exact (Option.some.inj hP').symm
    · rw [if_neg c] at hP' ⊢
      exact (Option.some.inj hP').symm
  rw [ev]
  exact q
/-- min of a list: which item -/
theorem oa_min_list {l : Addr} {vs : Array Value} {x : PyData} {xs : List PyData} {as : List Addr} {Q : Value → Shared → Prop} (hh : A.handled = none) (hl : s.heap.IsList l vs) (hr : ReadsAll s.heap vs.toList (x :: xs) as) (ha : AlikeAll (x :: xs)) (hu : A.units + 1 + PyData.depthAll (x :: xs) < cLine)
    (h : ∀ (i : Nat) v h' tk, i < (x :: xs).length → vs[i]? = some v → (x :: xs).getD i .none = minD x xs → (∀ b o, s.heap.get? b = some o → h'.get? b = some o) → Q v { s with heap := h', toks := tk }) :
    wpAny (model prog w) A (call (.builtin "min") [.ref l]) Q E s := by
  have hn : vs.size = xs.length + 1 := readsAll_len hr
  refine call_min_walkH (iter_listW (A := A.in1) hh hl fun s₂ e W st hfp hw hk => ?_)
  refine ⟨_, _, _, _, _, _, _, s.heap, _, rfl, W, st, hfp, by omega, hw, hk, cmpIn_lt (A := A.in1) hr ha (by show A.units + 1 + _ < _; exact hu), fun v s' hP m => ?_⟩
  obtain ⟨h', tk, rfl, hk'⟩ := moved_old e rfl m
  have e1 : vs.size - 1 = xs.length := by omega
  obtain ⟨e0, e2⟩ := argBest_fold dataLt PyData.none x xs xs.length (Nat.le_refl _)
  rw [List.take_length] at e2
  rw [e1] at hP
  exact h _ v h' tk (Nat.lt_succ_of_le e0) hP e2 hk'
end
end PySem.W
namespace Oa
open PySem PySem.Spec PyProof.Rows L2 Oat
/-! ### rows as data -/
def rowD (e : Int × List Nat) : PyData := .tuple [.int e.1, .tuple (e.2.map fun (n : Nat) => .int (n : Int))]
theorem alikeAll_ints : ∀ (xs ys : List Nat), PySem.W.alikeAll (xs.map fun (n : Nat) => .int (n : Int)) (ys.map fun (n : Nat) => .int (n : Int)) = true
  | [], ys => by cases ys <;> simp [PySem.W.alikeAll]
  | _ :: _, [] => by simp [PySem.W.alikeAll]
  | x :: xs, y :: ys => by
    simp only [List.map_cons, PySem.W.alikeAll, PySem.W.alike, Bool.true_and]
    exact alikeAll_ints xs ys
theorem alike_row (a b : Int × List Nat) : PySem.W.alike (rowD a) (rowD b) = true := by
  unfold rowD
  simp only [PySem.W.alike, PySem.W.alikeAll, Bool.true_and, Bool.and_true]
  exact alikeAll_ints _ _
theorem eqvAll_ints : ∀ (xs ys : List Nat), PyData.eqvAll (xs.map fun (n : Nat) => .int (n : Int)) (ys.map fun (n : Nat) => .int (n : Int)) = decide (xs = ys)
  | [], [] => by simp [PyData.eqvAll]
  | [], _ :: _ => by simp [PyData.eqvAll]
  | _ :: _, [] => by simp [PyData.eqvAll]
  | x :: xs, y :: ys => by
    simp only [List.map_cons, PyData.eqvAll, PyData.eqv]
    rw [eqvAll_ints xs ys, Bool.eq_iff_iff]
    simp only [Bool.and_eq_true, beq_iff_eq, decide_eq_true_eq, List.cons.injEq]
    exact ⟨fun h => ⟨by omega, h.2⟩, fun h => ⟨by rw [h.1], h.2⟩⟩
theorem lt_lexN : ∀ (xs ys : List Nat), decide ((xs.map fun (n : Nat) => (n : Int)) < (ys.map fun (n : Nat) => (n : Int))) = lexN xs ys
  | [], [] => by simp [lexN]
  | [], _ :: _ => by simp [lexN]
  | _ :: _, [] => by simp [lexN]
  | x :: xs, y :: ys => by
    simp only [List.map_cons, lexN]
    by_cases e : x = y
    · subst e
      rw [if_pos rfl, ← lt_lexN xs ys, Bool.eq_iff_iff, decide_eq_true_eq, decide_eq_true_eq]
      exact ⟨fun h => by simpa using h, fun h => by simpa using h⟩
    · rw [if_neg e, Bool.eq_iff_iff, decide_eq_true_eq, decide_eq_true_eq, List.cons_lt_cons_iff]
      exact ⟨fun h => by omega, fun h => .inl (by omega)⟩
theorem lex_ints (xs ys : List Nat) : PyProof.Rows.lexLt itemOrd (PySem.W.keyToksAll (xs.map fun (n : Nat) => .int (n : Int))) (PySem.W.keyToksAll (ys.map fun (n : Nat) => .int (n : Int))) = lexN xs ys := by
  have h := PySem.W.dataLt_ints (xs.map fun (n : Nat) => (n : Int)) (ys.map fun (n : Nat) => (n : Int))
  unfold PySem.W.rowLt at h
  rw [List.map_map, List.map_map] at h
  exact Eq.trans h (lt_lexN xs ys)
theorem lt_row (a b : Int × List Nat) : PySem.W.dataLt (rowD a) (rowD b) = rlt a b := by
  unfold rowD
  rw [PySem.W.dataLt_pair (by simp [PySem.W.alike]) (by simp only [PySem.W.alike]; exact alikeAll_ints _ _), PySem.W.dataLt_int]
  unfold rlt
  have e1 : PyData.eqv (.int a.1) (.int b.1) = decide (a.1 = b.1) := by
    simp only [PyData.eqv]
    rw [Bool.eq_iff_iff, beq_iff_eq, decide_eq_true_eq]
  rw [e1]
  by_cases h : a.1 = b.1
  · rw [if_pos (decide_eq_true h), if_pos h]
    have e2 : PyData.eqv (.tuple (a.2.map fun (n : Nat) => .int (n : Int))) (.tuple (b.2.map fun (n : Nat) => .int (n : Int))) = decide (a.2 = b.2) := by
      simp only [PyData.eqv]
      exact eqvAll_ints _ _
    rw [e2, PySem.W.dataLt_tuple, lex_ints]
    by_cases h2 : a.2 = b.2
    · rw [if_pos (decide_eq_true h2), h2]
      have : ∀ l : List Nat, lexN l l = false := fun l => by
        induction l with
        | nil => rfl
        | cons x l ih => simp [lexN, ih]
      exact (this _).symm
    · rw [if_neg (by simpa using h2)]
  · rw [if_neg (by simpa using h), if_neg h]

theorem alikeAll_rows (es : List (Int × List Nat)) : PySem.W.AlikeAll (es.map rowD) := by
  refine ⟨fun x hx y hy => ?_, fun x hx => ?_⟩
  · obtain ⟨a, _, rfl⟩ := List.mem_map.mp hx
    obtain ⟨b, _, rfl⟩ := List.mem_map.mp hy
    exact alike_row a b
  · obtain ⟨a, _, rfl⟩ := List.mem_map.mp hx
    exact fun z => nomatch z
theorem depth_ints : ∀ xs : List Nat, PyData.depthAll (xs.map fun (n : Nat) => .int (n : Int)) ≤ 1
  | [] => by simp [PyData.depthAll]
  | x :: xs => by
    have := depth_ints xs
    simp only [List.map_cons, PyData.depthAll, PyData.depth]
    omega
theorem depth_row (e : Int × List Nat) : (rowD e).depth ≤ 4 := by
  unfold rowD
  have := depth_ints e.2
  simp only [PyData.depth, PyData.depthAll]
  omega
theorem depth_rows : ∀ es : List (Int × List Nat), PyData.depthAll (es.map rowD) ≤ 4
  | [] => by simp [PyData.depthAll]
  | e :: es => by
    have := depth_rows es
    have := depth_row e
    simp only [List.map_cons, PyData.depthAll]
    omega
theorem minD_rows (e : Int × List Nat) (es : List (Int × List Nat)) : PySem.W.minD (rowD e) (es.map rowD) = rowD (es.foldl rmin e) := by
  unfold PySem.W.minD
  induction es generalizing e with
  | nil => rfl
  | cons x es ih =>
    rw [List.map_cons, List.foldl_cons, List.foldl_cons, lt_row]
    have : (if rlt x e = true then rowD x else rowD e) = rowD (rmin e x) := by
      unfold rmin
      split <;> rfl
    rw [this]
    exact ih _
theorem dpAll_rows {K : PySem.W.Frag} {H : Hp} : ∀ {xs : List V} {es : List (Int × List Nat)}, Paired (fun v e => Dp K H v (rowD e)) xs es → DpAll K H xs (es.map rowD)
  | _, _, .nil => .nil
  | _, _, .cons a b => .cons a (dpAll_rows b)
theorem rowD_inj {a b : Int × List Nat} (h : rowD a = rowD b) : a = b := by
  unfold rowD at h
  injection h with h
  injection h with h1 h2
  injection h1 with h1
  injection h2 with h2 _
  injection h2 with h2
  have e : a.2 = b.2 := by
    have : ∀ xs ys : List Nat, (xs.map fun (n : Nat) => PyData.int (n : Int)) = (ys.map fun (n : Nat) => PyData.int (n : Int)) → xs = ys := by
      intro xs
      induction xs with
      | nil => intro ys h; cases ys with | nil => rfl | cons y ys => cases h
      | cons x xs ih =>
        intro ys h
        cases ys with
        | nil => cases h
        | cons y ys =>
          simp only [List.map_cons] at h
          injection h with h1 h2
          injection h1 with h1
          rw [ih ys h2, show x = y by omega]
    exact this _ _ h2
  exact Prod.ext h1 e
section
variable {X : Cx}
/-- min(a, b) of two rows -/
def rMin2R (K : PySem.W.Frag) : List V → Hp → VK → Prop := fun vs H Q => ∃ x y a b, vs = [x, y] ∧ Dp K H x (rowD a) ∧ Dp K H y (rowD b) ∧ Q (if rlt b a = true then y else x) H
theorem min2R (K : PySem.W.Frag) (hc : X.calm = true) (hu : X.A.units + 64 < cLine) (h : X.K = K := by rfl) : CallR X (.builtin "min") (rMin2R K) := by
  subst h
  intro pins s σ H vs us Q I r h
  obtain ⟨x, y, a, b, rfl, ha, hb, q⟩ := h
  obtain ⟨u, w', rfl, r1, r2⟩ := vals2 r
  obtain ⟨as, h1⟩ := Dp.reads I _ _ _ ha r1
  obtain ⟨bs, h2⟩ := Dp.reads I _ _ _ hb r2
  have d := depth_rows [a, b]
  refine PySem.W.oa_min_data (I.ok.hd hc) h1 h2 (alikeAll_rows [a, b]) (by have : PyData.depthAll [rowD a, rowD b] ≤ 4 := d; omega) fun h' tk k => ⟨_, H, I.kept k, ?_, q⟩
  rw [lt_row]
  split
  · exact r2
  · exact r1
/-- min(xs) of a list of rows -/
def rMinLR (K : PySem.W.Frag) : List V → Hp → VK → Prop := fun vs H Q => ∃ p xs e es, vs = [.ref p] ∧ SqL K H p xs ∧ Paired (fun v e => Dp K H v (rowD e)) xs (e :: es) ∧ ∀ v, Dp K H v (rowD (es.foldl rmin e)) → Q v H
theorem minLR (K : PySem.W.Frag) (hc : X.calm = true) (hu : X.A.units + 64 < cLine) (h : X.K = K := by rfl) : CallR X (.builtin "min") (rMinLR K) := by
  subst h
  intro pins s σ H vs us Q I r h
  obtain ⟨p, xs, e, es, rfl, hs, hp, q⟩ := h
  obtain ⟨its, rv, hl, _⟩ := I.list hs
  rw [Vals.ref1 r]
  obtain ⟨as, hr⟩ := Dp.readsAll I _ _ _ (dpAll_rows hp) rv
  have d := depth_rows (e :: es)
  refine PySem.W.oa_min_list (vs := its.toArray) (x := rowD e) (xs := es.map rowD) (I.ok.hd hc) hl.isList (by simpa using hr) (alikeAll_rows (e :: es)) (by have : PyData.depthAll (rowD e :: es.map rowD) ≤ 4 := d; omega) fun i v h' tk hi hv hm k => ?_
  have hv' : its[i]? = some v := by simpa using hv
  have hi' : i < xs.length := by
    rw [Paired.length hp]
    simpa using hi
  obtain ⟨u, hu', ru⟩ := Vals.get rv (List.getElem?_eq_getElem hi')
  have : u = v := Option.some.inj (hu'.symm.trans hv')
  subst this
  have hd : Dp X.K H xs[i] (rowD ((e :: es).getD i (0, []))) := by
    have : ∀ {xs : List V} {es : List (Int × List Nat)}, Paired (fun v e => Dp X.K H v (rowD e)) xs es → ∀ (i : Nat) (h : i < xs.length), Dp X.K H xs[i] (rowD (es.getD i (0, []))) := by
      intro xs es hp
      induction hp with
      | nil => intro i h; exact absurd h (Nat.not_lt_zero _)
      | cons a b ih =>
        intro i h
        cases i with
        | zero => exact a
        | succ i => exact ih i (by simpa using h)
    exact this hp i hi'
  have eg : (rowD e :: es.map rowD).getD i .none = rowD ((e :: es).getD i (0, [])) := by
    have hl' : i < (e :: es).length := by simpa using hi
    rw [← List.map_cons, List.getD_eq_getElem?_getD, List.getElem?_map, List.getD_eq_getElem?_getD, List.getElem?_eq_getElem hl']
    rfl
  rw [eg, minD_rows] at hm
  rw [hm] at hd
  exact ⟨_, H, I.kept k, ru, q _ hd⟩
/-- a < b of two rows -/
def rLtR (K : PySem.W.Frag) : R2 := fun x y H Q => ∃ a b, Dp K H x (rowD a) ∧ Dp K H y (rowD b) ∧ Q (.bl (rlt a b)) H
end
end Oa
namespace Oa
open PySem PySem.Spec PyProof.Rows L2 Oat
section
variable {X : Cx}
/-! ### a dict beside an empty one; rows compared -/
def rEqE : R2 := fun x y H Q => ∃ a b ks, x = .ref a ∧ y = .ref b ∧ H a = some (.dK ks) ∧ H b = some (.dK []) ∧ Q (.bl ks.isEmpty) H
def rNeE : R2 := fun x y H Q => ∃ a b ks, x = .ref a ∧ y = .ref b ∧ H a = some (.dK ks) ∧ H b = some (.dK []) ∧ Q (.bl (!ks.isEmpty)) H
theorem op_eqE (hu : X.A.units < cLine) : OpR X (compareOp .Eq) rEqE := by
  intro pins s σ H x y v u Q I rx ry h
  obtain ⟨a, b, ks, rfl, rfl, ea, eb, q⟩ := h
  obtain rfl : v = Value.ref a := rx
  obtain rfl : u = Value.ref b := ry
  obtain ⟨_, ya, va, ra, da⟩ := (show ObjOk X.prog X.w H s.heap a (.dK ks) from I.hok a _ ea)
  obtain ⟨_, yb, vb, rb, db⟩ := (show ObjOk X.prog X.w H s.heap b (.dK []) from I.hok b _ eb)
  cases rb
  refine PySem.W.keq_eq (knd := mixKind X.prog X.w) (r := true) ya yb da db hu (fun e => ?_) (fin_bl I q ?_)
  · cases va with
    | nil => exact .nil
    | cons p r => cases e
  · cases ra <;> simp
theorem op_neE (hu : X.A.units < cLine) : OpR X (compareOp .NotEq) rNeE := by
  intro pins s σ H x y v u Q I rx ry h
  obtain ⟨a, b, ks, rfl, rfl, ea, eb, q⟩ := h
  obtain rfl : v = Value.ref a := rx
  obtain rfl : u = Value.ref b := ry
  obtain ⟨_, ya, va, ra, da⟩ := (show ObjOk X.prog X.w H s.heap a (.dK ks) from I.hok a _ ea)
  obtain ⟨_, yb, vb, rb, db⟩ := (show ObjOk X.prog X.w H s.heap b (.dK []) from I.hok b _ eb)
  cases rb
  refine PySem.W.keq_ne (knd := mixKind X.prog X.w) (r := true) ya yb da db hu (fun e => ?_) (fin_bl I q ?_)
  · cases va with
    | nil => exact .nil
    | cons p r => cases e
  · cases ra <;> simp
/-! ### a list beside an empty one -/
def rEqLE (K : PySem.W.Frag) : R2 := fun x y H Q => ∃ a b xs, x = .ref a ∧ y = .ref b ∧ SqL K H a xs ∧ SqL K H b [] ∧ Q (.bl xs.isEmpty) H
def rNeLE (K : PySem.W.Frag) : R2 := fun x y H Q => ∃ a b xs, x = .ref a ∧ y = .ref b ∧ SqL K H a xs ∧ SqL K H b [] ∧ Q (.bl (!xs.isEmpty)) H
theorem op_eqLE (K : PySem.W.Frag) (hu : X.A.units < cLine) (h : X.K = K := by rfl) : OpR X (compareOp .Eq) (rEqLE K) := by
  subst h
  intro pins s σ H x y v u Q I rx ry h
  obtain ⟨a, b, xs, rfl, rfl, ha, hb, q⟩ := h
  obtain rfl : v = Value.ref a := rx
  obtain rfl : u = Value.ref b := ry
  obtain ⟨its, r1, p1, _⟩ := I.list ha
  obtain ⟨its2, r2, p2, _⟩ := I.list hb
  cases r2
  cases r1 with
  | nil => exact SeqAt.eq_listAt (e := fun _ => true) p1.isList p2.isList rfl hu (fun j h1 _ => absurd h1 (Nat.not_lt_zero j)) (fin_bl I q rfl)
  | cons _ _ => exact SeqAt.eq_list_lengthsAt p1.isList p2.isList rfl hu (fin_bl I q rfl)
theorem op_neLE (K : PySem.W.Frag) (hu : X.A.units < cLine) (h : X.K = K := by rfl) : OpR X (compareOp .NotEq) (rNeLE K) := by
  subst h
  intro pins s σ H x y v u Q I rx ry h
  obtain ⟨a, b, xs, rfl, rfl, ha, hb, q⟩ := h
  obtain rfl : v = Value.ref a := rx
  obtain rfl : u = Value.ref b := ry
  obtain ⟨its, r1, p1, _⟩ := I.list ha
  obtain ⟨its2, r2, p2, _⟩ := I.list hb
  cases r2
  cases r1 with
  | nil => exact SeqAt.RcNeAt.lists (e := fun _ => true) p1.isList p2.isList rfl hu (fun j h1 _ => absurd h1 (Nat.not_lt_zero j)) _ _ _ _ (fin_bl I q rfl)
  | cons _ _ => exact SeqAt.RcNeAt.lists_lengths p1.isList p2.isList rfl hu _ _ _ _ (fin_bl I q rfl)
theorem op_ltR (K : PySem.W.Frag) (hu : X.A.units + 64 < cLine) (h : X.K = K := by rfl) : OpR X (compareOp .Lt) (rLtR K) := by
  subst h
  intro pins s σ H x y v u Q I rx ry h
  obtain ⟨a, b, ha, hb, q⟩ := h
  obtain ⟨as, h1⟩ := Dp.reads I _ _ _ ha rx
  obtain ⟨bs, h2⟩ := Dp.reads I _ _ _ hb ry
  have d := depth_row a
  refine PySem.W.rcLt_alike _ _ X.A s v u _ _ h1 h2 (alike_row a b) (fun z => nomatch z) (by have := Nat.min_le_left (rowD a).depth (rowD b).depth; omega) X.prog X.w _ _ (fin_bl I q ?_)
  exact (lt_row a b).symm
end
/-! ### dicts with whole keys, by their mirror -/
abbrev PairD {α : Type} (R : V → α → Prop) (kvs : List (Key × V)) (F : List (Nat × α)) : Prop := Paired (fun (kv : Key × V) (e : Nat × α) => kv.1 = Sum.inl ((e.1 : Nat) : Int) ∧ R kv.2 e.2) kvs F
theorem keyNat {a b : Nat} : (Sum.inl ((a : Nat) : Int) : Key) = Sum.inl ((b : Nat) : Int) ↔ a = b := by
  constructor
  · intro h
    have := Sum.inl.inj h
    omega
  · rintro rfl; rfl
section
variable {α : Type} {R : V → α → Prop}
theorem pd_imp {S : V → α → Prop} {kvs : List (Key × V)} {F : List (Nat × α)} (h : PairD R kvs F) (f : ∀ v e, R v e → S v e) : PairD S kvs F := paired_imp h fun _ _ q => ⟨q.1, f _ _ q.2⟩
theorem pd_get : ∀ {kvs : List (Key × V)} {F : List (Nat × α)} (k : Nat), PairD R kvs F → (dget F k = none → valV kvs (Sum.inl ((k : Nat) : Int)) = none) ∧ (∀ e, dget F k = some e → ∃ v, valV kvs (Sum.inl ((k : Nat) : Int)) = some v ∧ R v e)
  | _, _, k, .nil => ⟨fun _ => rfl, fun e h => by cases h⟩
  | (j, u) :: kvs, (i, a) :: F, k, .cons h t => by
    obtain ⟨h1, h2⟩ := h
    have h1 : j = Sum.inl ((i : Nat) : Int) := h1
    subst h1
    have ih := pd_get k t
    by_cases e : i = k
    · subst e
      refine ⟨fun z => ?_, fun b z => ?_⟩
      · simp [dget] at z
      · simp only [dget, if_true] at z
        have z := Option.some.inj z
        subst z
        exact ⟨u, valV_pos (p := (Sum.inl ((i : Nat) : Int), u)) rfl, h2⟩
    · have e2 : ¬ ((Sum.inl ((i : Nat) : Int), u) : Key × V).1 = Sum.inl ((k : Nat) : Int) := fun z => e (keyNat.mp z)
      rw [valV_neg e2]
      simp only [dget, if_neg e]
      exact ih
theorem pd_any : ∀ {kvs : List (Key × V)} {F : List (Nat × α)} (k : Nat), PairD R kvs F → (kvs.any fun kv => decide (kv.1 = Sum.inl ((k : Nat) : Int))) = (dget F k).isSome
  | kvs, F, k, h => by
    rw [valV_any]
    have g := pd_get k h
    cases e : dget F k with
    | none => rw [g.1 e]; rfl
    | some a =>
      obtain ⟨v, hv, _⟩ := g.2 a e
      rw [hv]; rfl
theorem dput_in {F : List (Nat × α)} {k : Nat} {a : α} (h : (F.map (·.1)).Nodup) (hk : (dget F k).isSome = true) : dput F k a = F.map (fun x => if x.1 = k then (x.1, a) else x) := by
  induction F with
  | nil => cases hk
  | cons x F ih =>
    obtain ⟨i, b⟩ := x
    have h : (i :: F.map (·.1)).Nodup := h
    obtain ⟨h1, h2⟩ := List.nodup_cons.mp h
    by_cases e : i = k
    · subst e
      simp only [dput, if_true, List.map_cons]
      congr 1
      have : ∀ x ∈ F, (if x.1 = i then (x.1, a) else x) = x := fun x hx => if_neg fun z => h1 (List.mem_map.mpr ⟨x, hx, z⟩)
      rw [List.map_congr_left this]
      simp
    · simp only [dput, if_neg e, List.map_cons]
      congr 1
      refine ih h2 ?_
      simpa [dget, e] using hk
theorem dput_out {F : List (Nat × α)} {k : Nat} {a : α} (hk : dget F k = none) : dput F k a = F ++ [(k, a)] := by
  induction F with
  | nil => rfl
  | cons x F ih =>
    obtain ⟨i, b⟩ := x
    by_cases e : i = k
    · simp [dget, e] at hk
    · simp only [dput, if_neg e, List.cons_append]
      rw [ih (by simpa [dget, e] using hk)]
theorem pd_put {kvs : List (Key × V)} {F : List (Nat × α)} {k : Nat} {v : V} {a : α} (nd : (F.map (·.1)).Nodup) (h : PairD R kvs F) (r : R v a) : PairD R (putK kvs (Sum.inl ((k : Nat) : Int)) v) (dput F k a) := by
  have e := pd_any k h
  unfold putK
  cases z : (dget F k).isSome with
  | true =>
    rw [e, z, if_pos rfl, dput_in nd z]
    clear e z nd
    have : ∀ {kvs : List (Key × V)} {F : List (Nat × α)}, PairD R kvs F → PairD R (kvs.map fun kv => if kv.1 = Sum.inl ((k : Nat) : Int) then (kv.1, v) else kv) (F.map fun x => if x.1 = k then (x.1, a) else x) := by
      intro kvs F h
      induction h with
      | nil => exact .nil
      | @cons p x ps xs h t ih =>
        obtain ⟨h1, h2⟩ := h
        refine .cons ?_ ih
        show (if p.1 = Sum.inl ((k : Nat) : Int) then (p.1, v) else p).1 = Sum.inl (((if x.1 = k then (x.1, a) else x).1 : Nat) : Int) ∧ R (if p.1 = Sum.inl ((k : Nat) : Int) then (p.1, v) else p).2 (if x.1 = k then (x.1, a) else x).2
        by_cases c : x.1 = k
        · have c2 : p.1 = Sum.inl ((k : Nat) : Int) := by rw [h1, c]
          rw [if_pos c2, if_pos c]
          exact ⟨h1, r⟩
        · have c2 : ¬ p.1 = Sum.inl ((k : Nat) : Int) := by rw [h1]; exact fun z => c (keyNat.mp z)
          rw [if_neg c2, if_neg c]
          exact ⟨h1, h2⟩
    exact this h
  | false =>
    rw [e, z, if_neg Bool.false_ne_true, dput_out (by cases q : dget F k with | none => rfl | some a => rw [q] at z; cases z)]
    exact paired_snoc h ⟨rfl, r⟩
theorem dput_keys (F : List (Nat × α)) (k : Nat) (a : α) (nd : (F.map (·.1)).Nodup) : ((dput F k a).map (·.1)).Nodup := by
  cases z : dget F k with
  | some b =>
    rw [dput_in nd (by rw [z]; rfl), List.map_map]
    have : ((fun x : Nat × α => x.1) ∘ fun x => if x.1 = k then (x.1, a) else x) = fun x => x.1 := by
      funext x
      show (if x.1 = k then (x.1, a) else x).1 = x.1
      split <;> rfl
    rw [this]
    exact nd
  | none =>
    rw [dput_out z, List.map_append]
    refine nd_snoc nd fun m => ?_
    obtain ⟨x, hx, e⟩ := List.mem_map.mp m
    have : ∀ {F : List (Nat × α)}, x ∈ F → dget F k ≠ none := by
      intro F
      induction F with
      | nil => intro h; cases h
      | cons y F ih =>
        intro h
        obtain ⟨i, b⟩ := y
        by_cases c : i = k
        · simp [dget, c]
        · simp only [dget, if_neg c]
          rcases List.mem_cons.mp h with h | h
          · subst h
            exact absurd e c
          · exact ih h
    exact this hx z
theorem dget_at : ∀ {F : List (Nat × α)} {i k : Nat} {a : α}, (F.map (·.1)).Nodup → F[i]? = some (k, a) → dget F k = some a
  | [], i, _, _, _, h => by simp at h
  | (j, b) :: F, 0, k, a, _, h => by
    have h := Option.some.inj h
    injection h with h1 h2
    simp [dget, h1, h2]
  | (j, b) :: F, i + 1, k, a, nd, h => by
    have nd : (j :: F.map (·.1)).Nodup := nd
    obtain ⟨h1, h2⟩ := List.nodup_cons.mp nd
    have h : F[i]? = some (k, a) := by simpa using h
    have : j ≠ k := fun e => h1 (by
      rw [e]
      exact List.mem_map.mpr ⟨(k, a), List.mem_of_getElem? h, rfl⟩)
    simp only [dget, if_neg this]
    exact dget_at h2 h
theorem pd_len {kvs : List (Key × V)} {F : List (Nat × α)} (h : PairD R kvs F) : kvs.length = F.length := Paired.length h
theorem pd_at : ∀ {kvs : List (Key × V)} {F : List (Nat × α)} {i : Nat} {k : Key} {v : V}, PairD R kvs F → kvs[i]? = some (k, v) → ∃ n a, F[i]? = some (n, a) ∧ k = Sum.inl ((n : Nat) : Int) ∧ R v a
  | _, _, i, _, _, .nil, h => by simp at h
  | _, _, 0, k, v, .cons (b := y) q _, h => by
    have h := Option.some.inj h
    subst h
    exact ⟨y.1, y.2, rfl, q.1, q.2⟩
  | _, _, i + 1, k, v, .cons _ t, h => by
    obtain ⟨n, a, h1, h2, h3⟩ := pd_at (i := i) t (by simpa using h)
    exact ⟨n, a, by simpa using h1, h2, h3⟩
end
/-! ### tuples stay -/
def TExt (H H' : Hp) : Prop := ∀ a xs, Rd H a (.tup xs) → Rd H' a (.tup xs)
theorem TExt.refl (H : Hp) : TExt H H := fun _ _ h => h
theorem TExt.trans {H H1 H2 : Hp} (a : TExt H H1) (b : TExt H1 H2) : TExt H H2 := fun c o h => b c o (a c o h)
theorem Ext.tx {H H' : Hp} (e : Ext H H') : TExt H H' := fun a xs h => e a _ nf_t h
theorem same_tx {H H' : Hp} (e : Same H H') : TExt H H' := (ext_of e).tx
theorem TExt.t {K : PySem.W.Frag} {H H' : Hp} {a : Addr} {xs : List V} (e : TExt H H') (h : SqT K H a xs) : SqT K H' a xs := by
  rcases h with h | h
  · exact .inl (e _ _ h)
  · exact .inr h
def NoTup (o : Option HO) : Prop := match o with
  | some (.tup _) => False
  | some (.frz _ (.tup _)) => False
  | _ => True
theorem tx_upd {H : Hp} {d : Addr} {o : HO} (h : NoTup (H d)) : TExt H (upd H d o) := fun a xs r => by
  have hne : a ≠ d := by
    rintro rfl
    rcases r with r | ⟨ob, r⟩
    · rw [r] at h
      exact h
    · rw [r] at h
      exact h
  rcases r with r | ⟨ob, r⟩
  · exact .inl (by rw [upd_ne hne]; exact r)
  · exact .inr ⟨ob, by rw [upd_ne hne]; exact r⟩
/-- a row (sum, parting) as it lies -/
def RowAt (K : PySem.W.Frag) (H : Hp) (v : V) (e : Int × List Nat) : Prop := ∃ p q, v = .ref p ∧ SqT K H p [.int e.1, .ref q] ∧ SqT K H q (e.2.map fun (n : Nat) => V.int (n : Int))
theorem RowAt.tx {K : PySem.W.Frag} {H H' : Hp} {v : V} {e : Int × List Nat} (h : RowAt K H v e) (x : TExt H H') : RowAt K H' v e := by
  obtain ⟨p, q, r, h1, h2⟩ := h
  exact ⟨p, q, r, x.t h1, x.t h2⟩
theorem dpAll_ints {K : PySem.W.Frag} {H : Hp} : ∀ l : List Nat, DpAll K H (l.map fun (n : Nat) => V.int (n : Int)) (l.map fun (n : Nat) => .int (n : Int))
  | [] => .nil
  | _ :: l => .cons (.int _) (dpAll_ints l)
theorem RowAt.dp {K : PySem.W.Frag} {H : Hp} {v : V} {e : Int × List Nat} (h : RowAt K H v e) : Dp K H v (rowD e) := by
  obtain ⟨p, q, rfl, h1, h2⟩ := h
  exact .tup h1 (.cons (.int _) (.cons (.tup h2 (dpAll_ints _)) .nil))
theorem rowAt_dp {K : PySem.W.Frag} {H : Hp} {v : V} {e : Int × List Nat} (h : Dp K H v (rowD e)) : RowAt K H v e := by
  unfold rowD at h
  cases h with
  | tup h1 hs =>
    cases hs with
    | cons a hs =>
      cases hs with
      | cons b hs =>
        cases hs
        cases a
        cases b with
        | tup h2 hi =>
          refine ⟨_, _, rfl, h1, ?_⟩
          have : ∀ {l : List Nat} {vs : List V}, DpAll K H vs (l.map fun (n : Nat) => .int (n : Int)) → vs = l.map fun (n : Nat) => V.int (n : Int) := by
            intro l
            induction l with
            | nil => intro vs h; cases h; rfl
            | cons x l ih =>
              intro vs h
              cases h with
              | cons a b =>
                cases a
                rw [ih b]
                rfl
          rw [← this hi]
          exact h2
end Oa
namespace Oa
open PySem PySem.Spec PyProof.Rows L2
def topS (i : Nat) : Stmt := PySem.Challenge.pw_oatroads_k12_lands_refused.main.body.getD i (.Pass ⟨0, 0, 0, 0⟩)
abbrev c_OatError : Stmt := topS 1
abbrev c_BadLand : Stmt := topS 2
abbrev c_BadWorks : Stmt := topS 3
abbrev c_BadWants : Stmt := topS 4
abbrev c_BadPlan : Stmt := topS 5
abbrev c_BadPaper : Stmt := topS 6
abbrev c_BadText : Stmt := topS 7
abbrev c_NoneSuch : Stmt := topS 8
abbrev s_is_whole : Stmt := topS 9
abbrev s_is_land : Stmt := topS 15
abbrev s_is_works : Stmt := topS 16
abbrev s_is_wants : Stmt := topS 17
abbrev s_look_land : Stmt := topS 18
abbrev s_look_place : Stmt := topS 19
abbrev s_look_works : Stmt := topS 20
abbrev s_look_case : Stmt := topS 21
abbrev s_beyond : Stmt := topS 22
abbrev s_way_to : Stmt := topS 23
abbrev s_part_of : Stmt := topS 24
abbrev s_neighbours : Stmt := topS 25
abbrev s_going_out : Stmt := topS 27
abbrev s_best_parting : Stmt := topS 28
abbrev s_own_need : Stmt := topS 29
abbrev s_is_called : Stmt := topS 30
abbrev s_tables_of : Stmt := topS 31
abbrev s_taken_for : Stmt := topS 32
abbrev s_best_left : Stmt := topS 33
abbrev s_least_of : Stmt := topS 34
abbrev s_least : Stmt := topS 35
abbrev s_told_way : Stmt := topS 36
abbrev s_left_beyond : Stmt := topS 37
abbrev s_crossings : Stmt := topS 38
abbrev s_blocked : Stmt := topS 39
abbrev s_price_of_room : Stmt := topS 40
abbrev s_price_of_leaving : Stmt := topS 41
abbrev c_Standing : Stmt := topS 44
abbrev s_done : Stmt := topS 45
abbrev s_meets : Stmt := topS 46
abbrev s_is_right : Stmt := topS 47
abbrev c_Maker : Stmt := topS 50
abbrev s_made : Stmt := topS 51
abbrev s_plan_of : Stmt := topS 52
abbrev s_paper : Stmt := topS 55
abbrev s_is_paper : Stmt := topS 56
abbrev s_least_sum : Stmt := topS 57
abbrev s_no_more : Stmt := topS 58
abbrev s_bound : Stmt := topS 59
abbrev s_dearer : Stmt := topS 61
abbrev s__law_town : Stmt := topS 63
abbrev s__law_draw : Stmt := topS 64
abbrev s__law_refusal : Stmt := topS 65
abbrev s__law_does : Stmt := topS 66
abbrev s__law_asked : Stmt := topS 67
abbrev s__law_lone_asked : Stmt := topS 68
abbrev s__law_kinds : Stmt := topS 69
abbrev s_law : Stmt := topS 70
theorem sc_is_whole : FnScope ["thing", "low", "high"] ["thing", "low", "high"] (defScope s_is_whole) := ⟨rfl, rfl, rfl, by decide +kernel, rfl, by decide +kernel, by decide +kernel⟩
theorem sc_is_land : FnScope ["thing", "k"] ["thing"] (defScope s_is_land) := ⟨rfl, rfl, rfl, by decide +kernel, rfl, by decide +kernel, by decide +kernel⟩
theorem sc_is_works : FnScope ["thing"] ["thing"] (defScope s_is_works) := ⟨rfl, rfl, rfl, by decide +kernel, rfl, by decide +kernel, by decide +kernel⟩
theorem sc_is_wants : FnScope ["land", "thing", "one"] ["land", "thing"] (defScope s_is_wants) := ⟨rfl, rfl, rfl, by decide +kernel, rfl, by decide +kernel, by decide +kernel⟩
theorem sc_look_land : FnScope ["land"] ["land"] (defScope s_look_land) := ⟨rfl, rfl, rfl, by decide +kernel, rfl, by decide +kernel, by decide +kernel⟩
theorem sc_look_place : FnScope ["land", "place"] ["land", "place"] (defScope s_look_place) := ⟨rfl, rfl, rfl, by decide +kernel, rfl, by decide +kernel, by decide +kernel⟩
theorem sc_look_works : FnScope ["works", "left"] ["works", "left"] (defScope s_look_works) := ⟨rfl, rfl, rfl, by decide +kernel, rfl, by decide +kernel, by decide +kernel⟩
theorem sc_look_case : FnScope ["land", "works", "wants", "left"] ["land", "works", "wants", "left"] (defScope s_look_case) := ⟨rfl, rfl, rfl, by decide +kernel, rfl, by decide +kernel, by decide +kernel⟩
theorem sc_beyond : FnScope ["land", "place", "k"] ["land", "place"] (defScope s_beyond) := ⟨rfl, rfl, rfl, by decide +kernel, rfl, by decide +kernel, by decide +kernel⟩
theorem sc_way_to : FnScope ["land", "place", "found"] ["land", "place"] (defScope s_way_to) := ⟨rfl, rfl, rfl, by decide +kernel, rfl, by decide +kernel, by decide +kernel⟩
theorem sc_part_of : FnScope ["land", "place", "found", "k"] ["land", "place"] (defScope s_part_of) := ⟨rfl, rfl, rfl, by decide +kernel, rfl, by decide +kernel, by decide +kernel⟩
theorem sc_neighbours : FnScope ["land", "place"] ["land", "place"] (defScope s_neighbours) := ⟨rfl, rfl, rfl, by decide +kernel, rfl, by decide +kernel, by decide +kernel⟩
theorem sc_going_out : FnScope ["room", "need", "left", "times"] ["room", "need", "left"] (defScope s_going_out) := ⟨rfl, rfl, rfl, by decide +kernel, rfl, by decide +kernel, by decide +kernel⟩
theorem sc_best_parting : FnScope ["tables", "left", "found", "table", "fresh", "used", "some", "row"] ["tables", "left"] (defScope s_best_parting) := ⟨rfl, rfl, rfl, by decide +kernel, rfl, by decide +kernel, by decide +kernel⟩
theorem sc_own_need : FnScope ["place", "wants", "tables", "left", "best"] ["place", "wants", "tables", "left"] (defScope s_own_need) := ⟨rfl, rfl, rfl, by decide +kernel, rfl, by decide +kernel, by decide +kernel⟩
theorem sc_is_called : FnScope ["land", "wants", "place", "called", "k", "one"] ["land", "wants", "place"] (defScope s_is_called) := ⟨rfl, rfl, rfl, by decide +kernel, rfl, by decide +kernel, by decide +kernel⟩
theorem sc_tables_of : FnScope ["land", "works", "wants", "left", "place", "found", "tables", "some", "need", "row", "k"] ["land", "works", "wants", "left"] (defScope s_tables_of) := ⟨rfl, rfl, rfl, by decide +kernel, rfl, by decide +kernel, by decide +kernel⟩
theorem sc_taken_for : FnScope ["land", "works", "wants", "place", "need", "left", "times"] ["land", "works", "wants", "place", "need", "left"] (defScope s_taken_for) := ⟨rfl, rfl, rfl, by decide +kernel, rfl, by decide +kernel, by decide +kernel⟩
theorem sc_best_left : FnScope ["table", "rows", "some"] ["table"] (defScope s_best_left) := ⟨rfl, rfl, rfl, by decide +kernel, rfl, by decide +kernel, by decide +kernel⟩
theorem sc_least_of : FnScope ["land", "works", "wants", "left", "found"] ["land", "works", "wants", "left"] (defScope s_least_of) := ⟨rfl, rfl, rfl, by decide +kernel, rfl, by decide +kernel, by decide +kernel⟩
theorem sc_least : FnScope ["land", "works", "wants", "left"] ["land", "works", "wants", "left"] (defScope s_least) := ⟨rfl, rfl, rfl, by decide +kernel, rfl, by decide +kernel, by decide +kernel⟩
theorem sc_told_way : FnScope ["land", "works", "wants", "left", "tables", "best", "found", "place", "parts", "k", "child"] ["land", "works", "wants", "left"] (defScope s_told_way) := ⟨rfl, rfl, rfl, by decide +kernel, rfl, by decide +kernel, by decide +kernel⟩
theorem sc_left_beyond : FnScope ["land", "works", "wants", "left", "found"] ["land", "works", "wants", "left"] (defScope s_left_beyond) := ⟨rfl, rfl, rfl, by decide +kernel, rfl, by decide +kernel, by decide +kernel⟩
theorem sc_crossings : FnScope ["land", "works", "wants", "left", "told", "tables", "k"] ["land", "works", "wants", "left"] (defScope s_crossings) := ⟨rfl, rfl, rfl, by decide +kernel, rfl, by decide +kernel, by decide +kernel⟩
theorem sc_blocked : FnScope ["land", "works", "wants", "left", "tables", "k", "one"] ["land", "works", "wants", "left"] (defScope s_blocked) := ⟨rfl, rfl, rfl, by decide +kernel, rfl, by decide +kernel, by decide +kernel⟩
theorem sc_price_of_room : FnScope ["land", "works", "wants", "left", "found"] ["land", "works", "wants", "left"] (defScope s_price_of_room) := ⟨rfl, rfl, rfl, by decide +kernel, rfl, by decide +kernel, by decide +kernel⟩
theorem sc_price_of_leaving : FnScope ["land", "works", "wants", "left"] ["land", "works", "wants"] (defScope s_price_of_leaving) := ⟨rfl, rfl, rfl, by decide +kernel, rfl, by decide +kernel, by decide +kernel⟩
theorem sc_done : FnScope ["land", "works", "plan", "found", "number", "deed"] ["land", "works", "plan"] (defScope s_done) := ⟨rfl, rfl, rfl, by decide +kernel, rfl, by decide +kernel, by decide +kernel⟩
theorem sc_meets : FnScope ["land", "found", "wants", "left", "place", "want", "one"] ["land", "found", "wants", "left"] (defScope s_meets) := ⟨rfl, rfl, rfl, by decide +kernel, rfl, by decide +kernel, by decide +kernel⟩
theorem sc_is_right : FnScope ["land", "works", "wants", "plan", "left"] ["land", "works", "wants", "plan", "left"] (defScope s_is_right) := ⟨rfl, rfl, rfl, by decide +kernel, rfl, by decide +kernel, by decide +kernel⟩
theorem sc_made : FnScope ["land", "works", "wants", "left", "told", "maker"] ["land", "works", "wants", "left"] (defScope s_made) := ⟨rfl, rfl, rfl, by decide +kernel, rfl, by decide +kernel, by decide +kernel⟩
theorem sc_plan_of : FnScope ["land", "works", "wants", "left", "found"] ["land", "works", "wants", "left"] (defScope s_plan_of) := ⟨rfl, rfl, rfl, by decide +kernel, rfl, by decide +kernel, by decide +kernel⟩
theorem sc_paper : FnScope ["land", "works", "wants", "left", "table", "some"] ["land", "works", "wants", "left"] (defScope s_paper) := ⟨rfl, rfl, rfl, by decide +kernel, rfl, by decide +kernel, by decide +kernel⟩
theorem sc_is_paper : FnScope ["land", "thing", "left", "keys", "one", "key", "number"] ["land", "thing", "left"] (defScope s_is_paper) := ⟨rfl, rfl, rfl, by decide +kernel, rfl, by decide +kernel, by decide +kernel⟩
theorem sc_least_sum : FnScope ["tables", "left", "sums", "table", "fresh", "some", "key", "total"] ["tables", "left"] (defScope s_least_sum) := ⟨rfl, rfl, rfl, by decide +kernel, rfl, by decide +kernel, by decide +kernel⟩
theorem sc_no_more : FnScope ["land", "works", "wants", "place", "number", "least", "left", "need", "times"] ["land", "works", "wants", "place", "number", "least", "left"] (defScope s_no_more) := ⟨rfl, rfl, rfl, by decide +kernel, rfl, by decide +kernel, by decide +kernel⟩
theorem sc_bound : FnScope ["land", "works", "wants", "table", "left", "place", "rows", "some", "k"] ["land", "works", "wants", "table", "left"] (defScope s_bound) := ⟨rfl, rfl, rfl, by decide +kernel, rfl, by decide +kernel, by decide +kernel⟩
theorem sc_dearer : FnScope ["land", "works", "wants", "left", "base", "found", "place", "units", "row", "there"] ["land", "works", "wants", "left"] (defScope s_dearer) := ⟨rfl, rfl, rfl, by decide +kernel, rfl, by decide +kernel, by decide +kernel⟩
theorem sc__law_town : FnScope ["script"] ["script"] (defScope s__law_town) := ⟨rfl, rfl, rfl, by decide +kernel, rfl, by decide +kernel, by decide +kernel⟩
theorem sc__law_draw : FnScope ["town", "count", "numbers", "at", "cell", "mixed"] ["town", "count"] (defScope s__law_draw) := ⟨rfl, rfl, rfl, by decide +kernel, rfl, by decide +kernel, by decide +kernel⟩
theorem sc__law_refusal : FnScope ["caught", "sorts"] ["caught"] (defScope s__law_refusal) := ⟨rfl, rfl, rfl, by decide +kernel, rfl, by decide +kernel, by decide +kernel⟩
theorem sc__law_does : FnScope ["sort_of", "land_here", "works_here", "wants_here", "some"] ["sort_of", "land_here", "works_here", "wants_here", "some"] (defScope s__law_does) := ⟨rfl, rfl, rfl, by decide +kernel, rfl, by decide +kernel, by decide +kernel⟩
theorem sc__law_asked : FnScope ["sort_of", "land_here", "works_here", "wants_here", "some", "caught", "e"] ["sort_of", "land_here", "works_here", "wants_here", "some"] (defScope s__law_asked) := ⟨rfl, rfl, rfl, by decide +kernel, rfl, by decide +kernel, by decide +kernel⟩
theorem sc__law_lone_asked : FnScope ["sort_of", "land_here", "place_here", "caught", "e"] ["sort_of", "land_here", "place_here"] (defScope s__law_lone_asked) := ⟨rfl, rfl, rfl, by decide +kernel, rfl, by decide +kernel, by decide +kernel⟩
theorem sc__law_kinds : FnScope ["good", "bad", "one"] [] (defScope s__law_kinds) := ⟨rfl, rfl, rfl, by decide +kernel, rfl, by decide +kernel, by decide +kernel⟩
theorem sc_law : FnScope ["script", "town", "road", "bad", "hard", "k"] ["script"] (defScope s_law) := ⟨rfl, rfl, rfl, by decide +kernel, rfl, by decide +kernel, by decide +kernel⟩
theorem sc_BadPlan___init__ : FnScope ["self", "number"] ["self", "number"] (defScope (inClass c_BadPlan 0)) := ⟨rfl, rfl, rfl, by decide +kernel, rfl, by decide +kernel, by decide +kernel⟩
theorem sc_Standing___init__ : FnScope ["self", "land", "works", "place"] ["self", "land", "works"] (defScope (inClass c_Standing 0)) := ⟨rfl, rfl, rfl, by decide +kernel, rfl, by decide +kernel, by decide +kernel⟩
theorem sc_Standing_do : FnScope ["self", "deed"] ["self", "deed"] (defScope (inClass c_Standing 1)) := ⟨rfl, rfl, rfl, by decide +kernel, rfl, by decide +kernel, by decide +kernel⟩
theorem sc_Standing_go : FnScope ["self", "cart", "place", "here"] ["self", "cart", "place"] (defScope (inClass c_Standing 2)) := ⟨rfl, rfl, rfl, by decide +kernel, rfl, by decide +kernel, by decide +kernel⟩
theorem sc_Standing_take : FnScope ["self", "cart", "units", "here"] ["self", "cart", "units"] (defScope (inClass c_Standing 3)) := ⟨rfl, rfl, rfl, by decide +kernel, rfl, by decide +kernel, by decide +kernel⟩
theorem sc_Standing_lay : FnScope ["self", "cart", "units", "here"] ["self", "cart", "units"] (defScope (inClass c_Standing 4)) := ⟨rfl, rfl, rfl, by decide +kernel, rfl, by decide +kernel, by decide +kernel⟩
theorem sc_Maker___init__ : FnScope ["self", "land", "works", "wants", "told", "tables"] ["self", "land", "works", "wants", "told", "tables"] (defScope (inClass c_Maker 0)) := ⟨rfl, rfl, rfl, by decide +kernel, rfl, by decide +kernel, by decide +kernel⟩
theorem sc_Maker_add : FnScope ["self", "word", "cart", "thing"] ["self", "word", "cart", "thing"] (defScope (inClass c_Maker 1)) := ⟨rfl, rfl, rfl, by decide +kernel, rfl, by decide +kernel, by decide +kernel⟩
theorem sc_Maker_bring : FnScope ["self", "place", "carts", "rest", "out", "ahead", "turn", "stays", "cart", "units"] ["self", "place", "carts"] (defScope (inClass c_Maker 2)) := ⟨rfl, rfl, rfl, by decide +kernel, rfl, by decide +kernel, by decide +kernel⟩
theorem sc_Maker_serve : FnScope ["self", "place", "carts", "children", "child", "at", "own", "one"] ["self", "place", "carts"] (defScope (inClass c_Maker 3)) := ⟨rfl, rfl, rfl, by decide +kernel, rfl, by decide +kernel, by decide +kernel⟩
structure Txt (K : PySem.W.Frag) (mg : Str → Option Value) : Prop where
  d_is_whole : Dfn K mg "is_whole" s_is_whole []
  d_is_land : Dfn K mg "is_land" s_is_land []
  d_is_works : Dfn K mg "is_works" s_is_works []
  d_is_wants : Dfn K mg "is_wants" s_is_wants []
  d_look_land : Dfn K mg "look_land" s_look_land []
  d_look_place : Dfn K mg "look_place" s_look_place []
  d_look_works : Dfn K mg "look_works" s_look_works []
  d_look_case : Dfn K mg "look_case" s_look_case []
  d_beyond : Dfn K mg "beyond" s_beyond []
  d_way_to : Dfn K mg "way_to" s_way_to []
  d_part_of : Dfn K mg "part_of" s_part_of []
  d_neighbours : Dfn K mg "neighbours" s_neighbours []
  d_going_out : Dfn K mg "going_out" s_going_out []
  d_best_parting : Dfn K mg "best_parting" s_best_parting []
  d_own_need : Dfn K mg "own_need" s_own_need []
  d_is_called : Dfn K mg "is_called" s_is_called []
  d_tables_of : Dfn K mg "tables_of" s_tables_of []
  d_taken_for : Dfn K mg "taken_for" s_taken_for []
  d_best_left : Dfn K mg "best_left" s_best_left []
  d_least_of : Dfn K mg "least_of" s_least_of []
  d_least : Dfn K mg "least" s_least [("left", .int 0)]
  d_told_way : Dfn K mg "told_way" s_told_way []
  d_left_beyond : Dfn K mg "left_beyond" s_left_beyond [("left", .int 0)]
  d_crossings : Dfn K mg "crossings" s_crossings [("left", .int 0)]
  d_blocked : Dfn K mg "blocked" s_blocked [("left", .int 0)]
  d_price_of_room : Dfn K mg "price_of_room" s_price_of_room [("left", .int 0)]
  d_price_of_leaving : Dfn K mg "price_of_leaving" s_price_of_leaving []
  d_done : Dfn K mg "done" s_done []
  d_meets : Dfn K mg "meets" s_meets []
  d_is_right : Dfn K mg "is_right" s_is_right [("left", .int 0)]
  d_made : Dfn K mg "made" s_made []
  d_plan_of : Dfn K mg "plan_of" s_plan_of [("left", .int 0)]
  d_paper : Dfn K mg "paper" s_paper [("left", .int 0)]
  d_is_paper : Dfn K mg "is_paper" s_is_paper []
  d_least_sum : Dfn K mg "least_sum" s_least_sum []
  d_no_more : Dfn K mg "no_more" s_no_more []
  d_bound : Dfn K mg "bound" s_bound [("left", .int 0)]
  d_dearer : Dfn K mg "dearer" s_dearer [("left", .int 0)]
  d__law_town : Dfn K mg "_law_town" s__law_town []
  d__law_draw : Dfn K mg "_law_draw" s__law_draw []
  d__law_refusal : Dfn K mg "_law_refusal" s__law_refusal []
  d__law_does : Dfn K mg "_law_does" s__law_does []
  d__law_asked : Dfn K mg "_law_asked" s__law_asked []
  d__law_lone_asked : Dfn K mg "_law_lone_asked" s__law_lone_asked []
  d__law_kinds : Dfn K mg "_law_kinds" s__law_kinds []
  d_law : Dfn K mg "law" s_law []
  g_Standing : mg "Standing" = some (.ref (He.ga K "Standing"))
  cl_Standing : Cls K (He.ga K "Standing")
  mk_Standing : Mk K (He.ga K "Standing") (He.ma K (He.ga K "Standing") "__init__")
  na_Standing_land : NoAttr K (He.ga K "Standing") "land"
  na_Standing_works : NoAttr K (He.ga K "Standing") "works"
  na_Standing_spots : NoAttr K (He.ga K "Standing") "spots"
  na_Standing_loads : NoAttr K (He.ga K "Standing") "loads"
  na_Standing_stores : NoAttr K (He.ga K "Standing") "stores"
  na_Standing_taken : NoAttr K (He.ga K "Standing") "taken"
  na_Standing_called : NoAttr K (He.ga K "Standing") "called"
  na_Standing_outs : NoAttr K (He.ga K "Standing") "outs"
  na_Standing_backs : NoAttr K (He.ga K "Standing") "backs"
  me_Standing_do : Meth K (He.ga K "Standing") "do" (He.ma K (He.ga K "Standing") "do")
  me_Standing_go : Meth K (He.ga K "Standing") "go" (He.ma K (He.ga K "Standing") "go")
  me_Standing_take : Meth K (He.ga K "Standing") "take" (He.ma K (He.ga K "Standing") "take")
  me_Standing_lay : Meth K (He.ga K "Standing") "lay" (He.ma K (He.ga K "Standing") "lay")
  g_Maker : mg "Maker" = some (.ref (He.ga K "Maker"))
  cl_Maker : Cls K (He.ga K "Maker")
  mk_Maker : Mk K (He.ga K "Maker") (He.ma K (He.ga K "Maker") "__init__")
  na_Maker_land : NoAttr K (He.ga K "Maker") "land"
  na_Maker_works : NoAttr K (He.ga K "Maker") "works"
  na_Maker_wants : NoAttr K (He.ga K "Maker") "wants"
  na_Maker_told : NoAttr K (He.ga K "Maker") "told"
  na_Maker_tables : NoAttr K (He.ga K "Maker") "tables"
  na_Maker_deeds : NoAttr K (He.ga K "Maker") "deeds"
  me_Maker_add : Meth K (He.ga K "Maker") "add" (He.ma K (He.ga K "Maker") "add")
  me_Maker_bring : Meth K (He.ga K "Maker") "bring" (He.ma K (He.ga K "Maker") "bring")
  me_Maker_serve : Meth K (He.ga K "Maker") "serve" (He.ma K (He.ga K "Maker") "serve")
  d_BadPlan___init__ : ∃ fd, FunD K "__init__" "BadPlan.__init__" (defArgs (inClass c_BadPlan 0)) (defBody (inClass c_BadPlan 0)) (defScope (inClass c_BadPlan 0)) [] [] (He.ma K (He.ga K "BadPlan") "__init__") fd
  d_Standing___init__ : ∃ fd, FunD K "__init__" "Standing.__init__" (defArgs (inClass c_Standing 0)) (defBody (inClass c_Standing 0)) (defScope (inClass c_Standing 0)) [] [] (He.ma K (He.ga K "Standing") "__init__") fd
  d_Standing_do : ∃ fd, FunD K "do" "Standing.do" (defArgs (inClass c_Standing 1)) (defBody (inClass c_Standing 1)) (defScope (inClass c_Standing 1)) [] [] (He.ma K (He.ga K "Standing") "do") fd
  d_Standing_go : ∃ fd, FunD K "go" "Standing.go" (defArgs (inClass c_Standing 2)) (defBody (inClass c_Standing 2)) (defScope (inClass c_Standing 2)) [] [] (He.ma K (He.ga K "Standing") "go") fd
  d_Standing_take : ∃ fd, FunD K "take" "Standing.take" (defArgs (inClass c_Standing 3)) (defBody (inClass c_Standing 3)) (defScope (inClass c_Standing 3)) [] [] (He.ma K (He.ga K "Standing") "take") fd
  d_Standing_lay : ∃ fd, FunD K "lay" "Standing.lay" (defArgs (inClass c_Standing 4)) (defBody (inClass c_Standing 4)) (defScope (inClass c_Standing 4)) [] [] (He.ma K (He.ga K "Standing") "lay") fd
  d_Maker___init__ : ∃ fd, FunD K "__init__" "Maker.__init__" (defArgs (inClass c_Maker 0)) (defBody (inClass c_Maker 0)) (defScope (inClass c_Maker 0)) [] [] (He.ma K (He.ga K "Maker") "__init__") fd
  d_Maker_add : ∃ fd, FunD K "add" "Maker.add" (defArgs (inClass c_Maker 1)) (defBody (inClass c_Maker 1)) (defScope (inClass c_Maker 1)) [] [] (He.ma K (He.ga K "Maker") "add") fd
  d_Maker_bring : ∃ fd, FunD K "bring" "Maker.bring" (defArgs (inClass c_Maker 2)) (defBody (inClass c_Maker 2)) (defScope (inClass c_Maker 2)) [] [] (He.ma K (He.ga K "Maker") "bring") fd
  d_Maker_serve : ∃ fd, FunD K "serve" "Maker.serve" (defArgs (inClass c_Maker 3)) (defBody (inClass c_Maker 3)) (defScope (inClass c_Maker 3)) [] [] (He.ma K (He.ga K "Maker") "serve") fd
  b_ValueError : mg "ValueError" = none
  b_all : mg "all" = none
  b_bool : mg "bool" = none
  b_dict : mg "dict" = none
  b_enumerate : mg "enumerate" = none
  b_int : mg "int" = none
  b_isinstance : mg "isinstance" = none
  b_len : mg "len" = none
  b_list : mg "list" = none
  b_max : mg "max" = none
  b_min : mg "min" = none
  b_range : mg "range" = none
  b_sorted : mg "sorted" = none
  b_str : mg "str" = none
  b_tuple : mg "tuple" = none
  i_MOST_PLACES : ∃ t, mg "MOST_PLACES" = some (.int 30 t)
  i_MOST_CARTS : ∃ t, mg "MOST_CARTS" = some (.int 6 t)
  i_MOST_ROOM : ∃ t, mg "MOST_ROOM" = some (.int 20 t)
  i_MOST_WANT : ∃ t, mg "MOST_WANT" = some (.int 999 t)
  i_MOST_DEEDS : ∃ t, mg "MOST_DEEDS" = some (.int 20000 t)
  i_MOST_MADE : ∃ t, mg "MOST_MADE" = some (.int 1500 t)
  i_MOST_NUMBER : ∃ t, mg "MOST_NUMBER" = some (.int 1000000000000000000000000000000 t)
end Oa
namespace Oa
open PySem PySem.Spec PyProof.Rows L2 Oat
/-- an exception object of the class cls that was raised and caught, kept as a value -/
def ExH (cls : Value) (d : Option Addr) (a : Addr) : HO := .ext fun h => ∃ (oe : Obj) (vs : Array Value), h.get? a = some oe ∧ Zc cls d oe ∧ oe.data = .fields vs
theorem exH_ok {P : Program} {w : World} {H : Hp} {h : Heap} {a : Addr} {cls : Value} {d : Option Addr} {oe : Obj} {vs : Array Value} (e : h.get? a = some oe) (z : Zc cls d oe) (hd : oe.data = .fields vs) : ObjOk P w H h a (ExH cls d a) :=
  ⟨⟨oe, vs, e, z, hd⟩, ⟨oe, e⟩, fun _ _ ⟨o, v, q, r⟩ k => ⟨o, v, k o q, r⟩⟩
section
variable {X : Cx} {pins : List (Addr × Obj)} {σ : L2.St} {H : Hp} {s : Shared}
/-- an object that stands already is tracked from now on -/
theorem inv_lay {a : Addr} {o : HO} (I : Inv X pins σ H s) (hn : H a = none) (h0 : X.s_0.heap.get? a = none) (hp : ∀ p ∈ X.pn ++ pins, p.1 ≠ a) (nL : a ≠ X.env.locals) (nC : ∀ x c, X.env.cells.lookup x = some c → c ≠ a)
    (new : ObjOk X.prog X.w (upd H a o) s.heap a o) : Inv X pins σ (upd H a o) s := by
  refine ⟨I.ok, I.os, I.bare, ⟨I.base.keep, I.base.slot, fun b u e n hb => ?_, I.base.there, fun b xs e => ?_, fun b ob u e => ?_, fun b ps e => ?_⟩, I.loc, I.cell, ?_, fun x c e => ?_, fun p hpp => ?_, fun b u e => ?_, I.len⟩
  · rw [upd_ne (fun z => by rw [z, h0] at e; cases e)]
    exact I.base.free b u e n hb
  · have := I.base.tups b xs e
    rw [upd_ne (ne_of_none this hn)]
    exact this
  · have := I.base.frzs b ob u e
    rw [upd_ne (ne_of_none this hn)]
    exact this
  · obtain ⟨m, this⟩ := I.base.tbls b ps e
    exact ⟨m, by rw [upd_ne (ne_of_none this hn)]; exact this⟩
  · rw [upd_ne nL.symm]
    exact I.free
  · rw [upd_ne (nC x c e)]
    exact I.freeC x c e
  · obtain ⟨e, n, ne, nf, d⟩ := I.pin p hpp
    exact ⟨e, by rw [upd_ne (hp p hpp)]; exact n, ne, nf, d⟩
  · by_cases hb : b = a
    · subst hb
      rw [upd_same] at e
      cases e
      exact new
    · rw [upd_ne hb] at e
      exact (I.hok b u e).stay (fun c v _ q => q) (fun c q => by rw [upd_ne (ne_of_none q hn)]; exact q) fun c xs q => by rw [upd_ne (ne_of_none q hn)]; exact q
theorem inv_suite {a : Addr} (I : Inv X pins σ H s) : Inv (X.suite a (X.pn ++ pins)) [] σ H s :=
  ⟨I.ok.suite _ _, I.os, I.bare, I.base, I.loc, I.cell, I.free, I.freeC, fun p hp => I.pin p (by rw [List.append_nil] at hp; exact hp), I.hok, I.len⟩
theorem inv_unsuite {a : Addr} {pn' : List (Addr × Obj)} (I : Inv (X.suite a (X.pn ++ pins)) pn' σ H s) (ok : X.Ok) : Inv X pins σ H s :=
  ⟨ok, I.os, I.bare, I.base, I.loc, I.cell, I.free, I.freeC, fun p hp => I.pin p (List.mem_append_left _ hp), I.hok, I.len⟩
end
/-- what the clause 'except x as n' wishes of an exception of the body: it is tracked from the suite on -/
def wKeep (K : PySem.W.Frag) (c : Value) (i : Nat) (ts : TS) (Wout : WX) (D : Ends) : WX := fun cls d σ H =>
  ∃ b, PySem.W.exmOne K cls c = some b ∧ (b = true → ∀ a, H a = none → ts { nx := fun σ' H' => D.nx (σ'.set i none) H', rt := D.rt, bk := fun σ' H' => D.bk (σ'.set i none) H', ct := fun σ' H' => D.ct (σ'.set i none) H' } (σ.set i (some (.ref a))) (upd H a (ExH cls d a))) ∧
    (b = false → Wout cls d σ H)
section
variable {X : Cx} {x n : Str} {c : Value} {i : Nat} {body suite : List Stmt} {b₀ : Stmt} {np pos pos' : Pos} {tb : WX → TS} {ts : TS} {Wout : WX}
theorem ps_try_keep (hs : X.stack = X.env :: X.outer) (hf : X.env.frame = some X.env.locals) (hex : X.ex = []) (hN : X.N.Nodup) (hi : X.N[i]? = some n) (hln : X.env.kindOf n = some .local) (hc : Names X x c) (tk : Takes X Wout)
    (hb : ∀ (W : WX) (pn : List (Addr × Obj)) (xe : Value → Shared → Prop), Takes (X.tr pn xe) W → PassesOwn (model X.prog X.w) X.A X.env xe → PSs (X.tr pn xe) body (tb W))
    (hsu : ∀ (a : Addr) (pn : List (Addr × Obj)), PSs (X.suite a pn) (b₀ :: suite) ts) :
    PS X (.Try body [.ExceptHandler (some (.Name x np)) (some n) (b₀ :: suite) pos'] [] [] pos) (fun D σ H => tb (wKeep X.K c i ts Wout D) D σ H) := by
  refine ⟨fun pins s σ H D I h => ?_⟩
  have ok := I.ok
  have hfr : X.A.frames = some (X.env :: X.outer) := by rw [ok.frames, hs]
  have hloc : Loc X.env.scope n := .inl hln
  refine wpAny_Try_except ?_
  refine wpAny_mono ((hb (wKeep X.K c i ts Wout D) (X.pn ++ pins) (fun e s₁ => wpAny (model X.prog X.w) X.A (noteFrame e X.env) (fun _ s₂ => wpAny (model X.prog X.w) X.A (setFlight e none) (fun _ s₃ =>
    wpAny (model X.prog X.w) X.A (handleBy e X.env [.ExceptHandler (some (.Name x np)) (some n) (b₀ :: suite) pos']) (SP X pins D) X.xe s₃) X.xe s₂) X.xe s₁) (fun u s' xx => ?_) PassesOwn.looking).run [] s σ H D (I.toTry _) h) (fun f s1 hsp => ?_) (fun e s1 he => he)
  · obtain ⟨a, B, sI, pins', σ', H', cls, d, rfl, J', nb, up, sky, na, os, ag, b, hb1, hyes, hno⟩ := xx
    have J : Inv X pins σ' H' sI := J'.ofTry ok
    have sky' : Sky B (X.env :: X.outer) a (Zc cls d) X.env.locals s'.heap := by rw [← hs]; exact sky
    show wpAny (model X.prog X.w) X.A (noteFrame (.ref a) X.env) _ _ _
    refine Sky.land Zc.steady hfr hf sky' fun h3 fl3 up3 => ?_
    have J3 : Inv X pins σ' H' { s' with heap := h3 } := J.landed nb fl3.1 (up.trans up3) os ag
    obtain ⟨oe3, vs3, he3, hz3, hd3⟩ := fl3.there
    have notFr : ∀ {h : Heap} {o : Obj} {vs : Array Value}, h.FunFrames B (X.env :: X.outer) → h.get? a = some o → o.data = .fields vs → a ∉ frs (X.env :: X.outer) := fun {h o vs} ff e dd hm => by
      obtain ⟨_, o', e', hnf⟩ := ff.mem hm
      rw [e] at e'; cases e'
      exact hnf _ dd
    have nfr := notFr fl3.2.2.1 he3 hd3
    have nL : a ≠ X.env.locals := fun z => nfr (List.mem_filterMap.mpr ⟨X.env, List.mem_cons_self, by rw [hf, z]⟩)
    have nF : a ∉ X.fs := fun hm => by
      obtain ⟨e, he, q⟩ := List.mem_filterMap.mp hm
      exact nfr (List.mem_filterMap.mpr ⟨e, List.mem_cons_of_mem _ he, q⟩)
    have aB : B.get? a = none := fl3.2.1
    have aI : sI.heap.get? a = none := by
      cases q : sI.heap.get? a with
      | none => rfl
      | some o =>
        have := nb a o q (by rw [hs]; exact nfr)
        rw [aB] at this
        cases this
    have a0 : X.s_0.heap.get? a = none := by
      cases q : X.s_0.heap.get? a with
      | none => rfl
      | some o =>
        obtain ⟨o', z⟩ := J.base.there a o q (by rw [hex]; exact fun z => nomatch z)
        rw [aI] at z
        cases z
    have aP : ∀ p ∈ X.pn ++ pins, p.1 ≠ a := fun p hp z => by
      have := (J.pin p hp).1
      rw [z, aI] at this
      cases this
    have S3 := J3.suite he3 hd3 na nL nF
    refine wpAny_handleBy_cons (codeAny_handlers_test ?_) (by intro q; cases q)
    have LT : PySem.W.Looks (model X.prog X.w) h3 (typeOf (.ref a)) cls := fun A Q E s k q => wpAny_typeOf_ref (k _ _ he3) (by rw [hz3.1]; exact q)
    have LM := PySem.W.exm_one (M := model X.prog X.w) (J3.kIn) LT hb1
    have test : ∀ {Q : Value → Shared → Prop} {E : Value → Shared → Prop}, Q c { s' with heap := h3 } → wpAny (model X.prog X.w) (X.A.mark (some (.ref a))) (eval (.Name x np) X.env) Q E { s' with heap := h3 } := fun {Q E} q => by
      obtain ⟨hg, hdbg, hm | ⟨hm, hv, hnn⟩⟩ := hc
      · exact ld_glob (X := X.suite a ((a, oe3) :: (X.pn ++ pins))) S3 hg hm q hdbg
      · exact ld_blt (X := X.suite a ((a, oe3) :: (X.pn ++ pins))) S3 hg hm hv q hnn hdbg
    refine test (LM.here ?_)
    cases b with
    | true =>
      refine codeAny_handlers_suite_as ?_
      refine HandSPX.lands_againZ fl3 fun h4 fl4 up4 => ?_
      have J4 : Inv X pins σ' H' { s' with heap := h4 } := J.landed nb fl4.1 ((up.trans up3).trans up4) os ag
      obtain ⟨oe4, vs4, he4, hz4, hd4⟩ := fl4.there
      have nC : ∀ x c, X.env.cells.lookup x = some c → c ≠ a := fun x c e z => by
        obtain ⟨v, o, ho, hcd⟩ := J4.cell x c e
        rw [z] at ho
        have ho : h4.get? a = some o := ho
        rw [he4] at ho
        cases ho
        rw [hd4] at hcd
        cases hcd
      have K4 : Inv X pins σ' (upd H' a (ExH cls d a)) { s' with heap := h4 } := inv_lay J4 na a0 aP nL nC (exH_ok he4 hz4 hd4)
      have S4 : Inv (X.suite a (X.pn ++ pins)) [] σ' (upd H' a (ExH cls d a)) { s' with heap := h4 } := inv_suite K4
      refine store_ok (X := X.suite a (X.pn ++ pins)) (v := .ref a) S4 hN hi hloc rfl (fun s5 S5 => ?_) (.inr hln)
      refine wpAny_mono ((hsu a (X.pn ++ pins)).run [] s5 _ _ _ S5 (hyes rfl a na)) (fun f s6 hsp => ?_) (fun _ _ z => False.elim z)
      have end_ : ∀ {σ6 : L2.St} {H6 : Hp} {Q : Shared → Prop}, Inv (X.suite a (X.pn ++ pins)) [] σ6 H6 s6 → (∀ s7, Inv X pins (σ6.set i none) H6 s7 → Q s7) →
          wpAny (model X.prog X.w) X.A (do bindName X.env n .none; unbindBehindTheSuite X.env n pos') (fun _ s7 => Q s7) X.xe s6 := fun {σ6 H6 Q} S6 hq => gone_ok (inv_unsuite S6 ok) hN hi hln hq
      cases f with
      | next =>
        obtain ⟨σ6, H6, S6, q6⟩ := hsp
        exact end_ S6 fun s7 J7 => ⟨_, _, J7, q6⟩
      | brk =>
        obtain ⟨σ6, H6, S6, q6⟩ := hsp
        exact end_ S6 fun s7 J7 => ⟨_, _, J7, q6⟩
      | cont =>
        obtain ⟨σ6, H6, S6, q6⟩ := hsp
        exact end_ S6 fun s7 J7 => ⟨_, _, J7, q6⟩
      | ret u =>
        obtain ⟨v6, σ6, H6, S6, r6, q6⟩ := hsp
        exact end_ S6 fun s7 J7 => ⟨_, _, _, J7, r6, q6⟩
    | false =>
      show wpAny _ X.A (handleBy (.ref a) X.env []) _ _ _
      refine wpAny_handleBy_nil ?_
      obtain ⟨k1, k2, k3, oe, vs, T, oT, ts', he, hz, hd, h1, hr⟩ := id fl3
      unfold PySem.passOn
      refine wpAny_bind (wpAny_field he hd h1 ?_)
      rw [if_neg (show ¬ ((Value.ref T == Value.none) = true) from by simp)]
      have fin : wpAny (model X.prog X.w) X.A (setFlight (.ref a) X.env.frame) (fun _ s4 => wpAny (model X.prog X.w) X.A (throw (.ref a) : Sem Flow) (SP X pins D) X.xe s4) X.xe { s' with heap := h3 } := by
        rw [hf]
        refine HandSPX.setFlight_upZ fl3 fun h4 hh4 up4 => wpAny_throw (tk _ _ ?_)
        exact ⟨a, B, sI, pins, σ', H', cls, d, rfl, J, nb, (up.trans up3).trans up4, .inr (.inr (by rw [hs]; exact hh4)), na, os, ag, hno rfl⟩
      first
        | exact wpAny_bind (wpAny_pure (wpAny_bind fin))
        | exact wpAny_bind fin
  · cases f with
    | next =>
      obtain ⟨σ', H', J', q⟩ := hsp
      exact wpAny_execs_nil ⟨σ', H', J'.ofTry ok, q⟩
    | brk =>
      obtain ⟨σ', H', J', q⟩ := hsp
      exact ⟨σ', H', J'.ofTry ok, q⟩
    | cont =>
      obtain ⟨σ', H', J', q⟩ := hsp
      exact ⟨σ', H', J'.ofTry ok, q⟩
    | ret u =>
      obtain ⟨v, σ', H', J', r, q⟩ := hsp
      exact ⟨v, σ', H', J'.ofTry ok, r, q⟩
/-- isinstance(e, c), e a kept exception -/
def rIsH (K : PySem.W.Frag) : List V → Hp → VK → Prop := fun xs H Q => ∃ (a D : Addr) (cl : V) (cv : Value) (b : Bool), xs = [.ref a, cl] ∧ H a = some (ExH (.ref D) none a) ∧ ExcC K D ∧ ClsV cl cv ∧ PySem.W.kitOne K (.ref D) cv = some b ∧ Q (.bl b) H
theorem isH (K : PySem.W.Frag) (h : X.K = K := by rfl) : CallR X (.builtin "isinstance") (rIsH K) := by
  subst h
  intro pins s σ H xs us Q I r h
  obtain ⟨a, D, cl, cv, b, rfl, ha, C, k, e, q⟩ := h
  obtain ⟨u1, u2, rfl, r1, r2⟩ := vals2 r
  have e2 := k.eq r2
  subst e2
  cases r1
  obtain ⟨⟨oe, vs, hget, hz, hv⟩, _, _⟩ := I.hok a _ ha
  have J : PySem.W.InstAt s.heap a oe D none := by
    obtain ⟨oc, od, oda, osl⟩ := oe
    obtain ⟨h1, h2⟩ := hz
    dsimp only at h1 h2 hv
    subst h1 h2 hv
    exact ⟨hget, rfl, rfl, trivial⟩
  exact PySem.W.kia_one (PySem.W.handS_kitx_exc C.hg C.hk C.hs C.hd C.ha C.hn C.ht C.hm) I.kIn J e (fun z => nomatch z) fun tk => ⟨.bl b, H, I.kept (t' := tk) fun _ _ z => z, rfl, q⟩
end
end Oa
namespace Oa
open PySem PySem.Spec PyProof.Rows L2 Oat
section
variable {P : Program} {w : World} {K : PySem.W.Frag} {mg : Str → Option Value} {base : Heap}
/-! ### is_whole -/
def isWholeV (v : V) (lo hi : Int) : Bool := match v with
  | .int i => decide (lo ≤ i ∧ i ≤ hi)
  | _ => false
/-- an int, a bool, or a thing of a type that is none -/
def Thing (K : PySem.W.Frag) (H : Hp) (v : V) : Prop := (∃ i, v = .int i) ∨ (∃ b, v = .bl b) ∨ ((∀ i, v ≠ .int i) ∧ ∃ t, TyX K H v (.type t) ∧ kitB t "int" = some false)
def sp_is_whole (K : PySem.W.Frag) : Sp := fun vs H Q _ => ∃ v lo hi, vs = [v, .int lo, .int hi] ∧ Thing K H v ∧ Q (.bl (isWholeV v lo hi)) H
theorem c_is_whole (T : Txt K mg) : Cal P w K mg base CX0 1 "is_whole" ["thing", "low", "high"] (sp_is_whole K) := by
  refine cal0 T.d_is_whole sc_is_whole (fun _ _ _ _ _ _ us hl => match us, hl with | [_, _, _], _ => rfl) (fun vs H Q E h => ?_) (fun f cdv A outer s H vs Q E hr h => ?_)
  · obtain ⟨v, lo, hi, rfl, _⟩ := h
    rfl
  · obtain ⟨v, lo, hi, rfl, th, q⟩ := h
    refine ⟨_, (pss_one (ps_ret (pe_and (pe_callB (isi K) rfl T.b_isinstance (by decide +kernel) (pa_cons (pv 0) (pa_cons (pe_bltn (v := .ty "int") rfl T.b_int (by decide +kernel) rfl) pa_nil))) (pe_and (pe_not (pe_callB (isi K) rfl T.b_isinstance (by decide +kernel) (pa_cons (pv 0) (pa_cons (pe_bltn (v := .ty "bool") rfl T.b_bool (by decide +kernel) rfl) pa_nil)))) (pe_one (pe_chain op_le op_le (pv 1) (pv 0) (pv 2))))))), ?_⟩
    rcases th with ⟨i, rfl⟩ | ⟨b, rfl⟩ | ⟨ni, t, ty, kb⟩
    · refine ⟨_, rfl, .int i, .ty "int", .type "int", .type "int", true, rfl, .ty "int", .base (.int i), kit_ty (by decide +kernel), true, rfl, iteT ?_⟩
      refine ⟨_, rfl, .int i, .ty "bool", .type "int", .type "bool", false, rfl, .ty "bool", .base (.int i), kit_ty (by decide +kernel), false, rfl, true, rfl, iteT ?_⟩
      refine ⟨_, rfl, _, rfl, _, _, rfl, rfl, _, rfl, ite2 (fun c => ?_) (fun c => ?_)⟩
      · refine ⟨_, rfl, _, _, rfl, rfl, ?_⟩
        have c' := of_decide_eq_true c
        have e : isWholeV (.int i) lo hi = decide (i ≤ hi) := by
          unfold isWholeV
          exact decide_eq_decide.mpr ⟨fun h => h.2, fun h => ⟨c', h⟩⟩
        rw [e] at q
        exact q
      · have c' := of_decide_eq_false (Bool.eq_false_iff.mpr c)
        have e : isWholeV (.int i) lo hi = false := decide_eq_false fun h => c' h.1
        rw [e] at q
        exact q
    · refine ⟨_, rfl, .bl b, .ty "int", .type "bool", .type "int", true, rfl, .ty "int", .base (.bl b), kit_ty (by decide +kernel), true, rfl, iteT ?_⟩
      refine ⟨_, rfl, .bl b, .ty "bool", .type "bool", .type "bool", true, rfl, .ty "bool", .base (.bl b), kit_ty (by decide +kernel), true, rfl, false, rfl, iteF ?_⟩
      exact q
    · refine ⟨_, rfl, v, .ty "int", .type t, .type "int", false, rfl, .ty "int", ty, kit_ty kb, false, rfl, iteF ?_⟩
      have e : isWholeV v lo hi = false := by
        cases v with
        | int i => exact absurd rfl (ni i)
        | _ => rfl
      rw [e] at q
      exact q
/-! ### lands, works, wants as values -/
def landV (L : List Nat) : List V := .non :: L.map fun (p : Nat) => V.int (p : Int)
def optV : Option Nat → V
  | none => .non
  | some n => .int (n : Int)
def wantsV (W : List (Option Nat)) : List V := W.map optV
theorem landV_len (L : List Nat) : (landV L).length = L.length + 1 := by simp [landV]
theorem landV_at {L : List Nat} {i : Nat} (h : i < L.length) : (landV L)[i + 1]? = some (.int ((L.getD i 0 : Nat) : Int)) := by
  simp [landV, h]
theorem optV_thing {H : Hp} (o : Option Nat) : Thing K H (optV o) := by
  cases o with
  | none => exact .inr (.inr ⟨(fun i e => nomatch e), "NoneType", TyX.base TyOf.non, by decide +kernel⟩)
  | some n => exact .inl ⟨n, rfl⟩
/-! ### beyond -/
def sp_beyond (K : PySem.W.Frag) : Sp := fun vs H Q _ => ∃ a L p, vs = [.ref a, .int ((p : Nat) : Int)] ∧ SqT K H a (landV L) ∧ L.length < 30 ∧
  ∀ l H', H l = none → Same H H' → H' l = some (.lst ((kids L p).map fun (k : Nat) => V.int (k : Int))) → Q (.ref l) H'
theorem paired_vals {α : Type} {g : α → V} {Rr : α → V → Prop} (h : ∀ a v, Rr a v → v = g a) : ∀ {xs : List α} {ys : List V}, Paired Rr xs ys → ys = xs.map g
  | _, _, .nil => rfl
  | _, _, .cons a b => by rw [List.map_cons, h _ _ a, paired_vals h b]
theorem c_beyond (T : Txt K mg) : Cal P w K mg base CX0 1 "beyond" ["land", "place"] (sp_beyond K) := by
  refine cal0 T.d_beyond sc_beyond (fun _ _ _ _ _ _ us hl => match us, hl with | [_, _], _ => rfl) (fun vs H Q E h => ?_) (fun f cdv A outer s H vs Q E hr h => ?_)
  · obtain ⟨a, L, p, rfl, _⟩ := h
    rfl
  · obtain ⟨a, L, p, rfl, hS, hL, q⟩ := h
    refine ⟨_, (pss_one (ps_ret (pe_lc (own := [("k", 2)]) (g := gName 2) rfl sc_beyond.nd (pi_range2 rfl T.b_range (pa_cons pe_int (pa_cons (pe_callB (lenS K) rfl T.b_len PySem.boot_len (pa_cons (pv 0) pa_nil)) pa_nil))) (blkOk_by (own := [("k", 2)]) (N := ["land", "place", "k"]) (sc := (defScope s_beyond)) (by decide +kernel)) (fun _ _ _ _ _ => pg_name (i := 2) sc_beyond.nd rfl (Or.inl rfl)) (fun _ _ _ _ _ => pts_one (pt_cmpR op_eq (pe_ix (ixT K) (pv 0) (pv 2) (fun _ _ => rfl)) (pv 1) (nomark _))) (fun _ _ _ _ _ => (pv 2))))), ?_⟩
    have el : (landV L).length = L.length + 1 := landV_len L
    refine ⟨_, rfl, a, _, rfl, .inr hS, _, _, rfl, ⟨by decide, by decide, by omega, by omega⟩, fun D hD => ?_⟩
    refine lc_rel walk_range hD (by omega) (fun _ _ => trivial) (fun i => L.getD i 0 == p) (fun i v _ => v = .int ((i + 1 : Nat) : Int)) (fun _ _ _ _ _ _ _ h => h) (fun i x H2 H3 l hi s1 hy y => ?_) (fun ys H2 s1 hy hp => ?_)
    · obtain ⟨rfl, rfl⟩ := y
      have hi' : i < L.length := by omega
      have e1 : (1 : Int) + (i : Int) = ((i + 1 : Nat) : Int) := by omega
      refine ⟨Same.refl _, rfl, fun Q' q' => ?_, fun _ H4 _ Q' q' => ?_⟩
      · refine ⟨_, rfl, _, rfl, a, _, _, _, rfl, rfl, same_t s1 hS, (by rw [e1]; exact atI_nat (landV_at hi')), _, rfl, rfl, _, rfl, ?_⟩
        have e2 : decide (V.int ((L.getD i 0 : Nat) : Int) = V.int ((p : Nat) : Int)) = (L.getD i 0 == p) := by
          rw [Bool.eq_iff_iff, decide_eq_true_eq, beq_iff_eq]
          exact ⟨fun h => by injection h with h; omega, fun h => by rw [h]⟩
        have q2 := q' H3 (Same.refl _)
        rw [← e2] at q2
        exact q2
      · exact ⟨_, rfl, q' _ H4 (Same.refl _) (congrArg V.int e1)⟩
    · have e3 : (((landV L).length : Int) - 1).toNat = L.length := by omega
      rw [e3] at hp
      have e4 := paired_vals (g := fun i => V.int ((i + 1 : Nat) : Int)) (fun _ _ h => h) hp
      refine q D H2 hD s1 ?_
      rw [hy, e4]
      unfold kids
      rw [List.map_map]
      rfl
/-! ### is_land, is_works, is_wants: of those that are -/
theorem all_yes : ∀ {xs : List Nat} {ys : List V}, Paired (fun (_ : Nat) v => v = V.bl true) xs ys → ∃ bs : List Bool, ys = bs.map V.bl ∧ bs.all id = true
  | _, _, .nil => ⟨[], rfl, rfl⟩
  | _, _, .cons a b => by
    obtain ⟨bs, e, h⟩ := all_yes b
    exact ⟨true :: bs, by rw [a, e]; rfl, by rw [List.all_cons, h]; rfl⟩
theorem tyT {H : Hp} {a : Addr} {xs : List V} (h : SqT K H a xs) : TyX K H (.ref a) (.type "tuple") := by
  rcases h with (h | ⟨o, h⟩) | ⟨o, its, n, h1, h2, _⟩
  · exact .base (.tup h)
  · exact .fTuple h
  · exact .kTuple h1 h2
def sp_is_land (K : PySem.W.Frag) : Sp := fun vs H Q _ => ∃ a L, vs = [.ref a] ∧ SqT K H a (landV L) ∧ L.length < 30 ∧ WfL L ∧ ∀ H', Same H H' → Q (.bl true) H'
theorem c_is_land (T : Txt K mg) : Cal P w K mg base CX0 2 "is_land" ["thing"] (sp_is_land K) := by
  refine cal0 T.d_is_land sc_is_land (fun _ _ _ _ _ _ us hl => match us, hl with | [_], _ => rfl) (fun vs H Q E h => ?_) (fun f cdv A outer s H vs Q E hr h => ?_)
  · obtain ⟨a, L, rfl, _⟩ := h
    rfl
  · obtain ⟨a, L, rfl, hS, hL, wf, q⟩ := h
    refine ⟨_, (pss_cons (ps_if (PW.pt (pw_or (pt_not (pt_val (pe_callB (isi K) rfl T.b_isinstance (by decide +kernel) (pa_cons (pv 0) (pa_cons (pe_bltn (v := .ty "tuple") rfl T.b_tuple (by decide +kernel) rfl) pa_nil))))) (pw_or (pt_not (pt_chain op_le op_le pe_int (pe_callB (lenS K) rfl T.b_len PySem.boot_len (pa_cons (pv 0) pa_nil)) (pe_glob (v := .int 30) rfl T.i_MOST_PLACES.choose_spec ⟨_, rfl⟩))) (pw_or1 (pt_cmpR op_notN (pe_ix (ixT K) (pv 0) pe_int (fun _ _ => rfl)) pe_non (nomark _)))))) (pss_one (ps_ret pe_bl)) pss_nil)
      (pss_one (ps_ret (pe_callB (allL K rfl) rfl T.b_all (by decide +kernel) (pa_cons (pe_lc (own := [("k", 1)]) (g := gName 1) rfl sc_is_land.nd (pi_range2 rfl T.b_range (pa_cons pe_int (pa_cons (pe_callB (lenS K) rfl T.b_len PySem.boot_len (pa_cons (pv 0) pa_nil)) pa_nil))) (blkOk_by (own := [("k", 1)]) (N := ["thing", "k"]) (sc := (defScope s_is_land)) (by decide +kernel)) (fun _ _ _ _ _ => pg_name (i := 1) sc_is_land.nd rfl (Or.inl rfl)) (fun _ _ _ _ _ => pts_nil) (fun _ _ _ _ _ => (pcall (c_is_whole T) (hr.mono (by omega)) (pa_cons (pe_ix (ixT K) (pv 0) (pv 1) (fun _ _ => rfl)) (pa_cons pe_int (pa_cons (pe_op op_sub (pv 1) pe_int) pa_nil)))))) pa_nil))))), ?_⟩
    have el : (landV L).length = L.length + 1 := landV_len L
    refine ⟨_, rfl, .ref a, .ty "tuple", .type "tuple", .type "tuple", true, rfl, .ty "tuple", tyT hS, kit_ty (by decide +kernel), true, rfl, iteF ?_⟩
    refine ⟨_, rfl, a, _, rfl, .inr hS, 1, _, rfl, rfl, true, congrArg V.bl (decide_eq_true (by omega)), iteT ?_⟩
    refine ⟨_, _, rfl, rfl, true, congrArg V.bl (decide_eq_true (by omega)), iteF ?_⟩
    refine ⟨_, rfl, a, _, 0, .non, rfl, rfl, hS, atI_nat (j := 0) rfl, rfl, false, rfl, iteF ?_⟩
    refine ⟨_, rfl, a, _, rfl, .inr hS, _, _, rfl, ⟨by decide, by decide, by omega, by omega⟩, fun D hD => ?_⟩
    refine lc_rel walk_range hD (by omega) (fun _ _ => trivial) (fun i => true) (fun i v _ => v = .bl true) (fun _ _ _ _ _ _ _ h => h) (fun i x H2 H3 l hi s1 hy y => ?_) (fun ys H2 s1 hy hp => ?_)
    · obtain ⟨rfl, rfl⟩ := y
      have hi' : i < L.length := by omega
      have e1 : (1 : Int) + (i : Int) = ((i + 1 : Nat) : Int) := by omega
      refine ⟨Same.refl _, rfl, fun Q' q' => q' H3 (Same.refl _), fun _ H4 s4 Q' q' => ?_⟩
      refine ⟨_, rfl, _, rfl, a, _, _, _, rfl, rfl, same_t (s1.trans s4) hS, (by rw [e1]; exact atI_nat (landV_at hi')), _, rfl, _, _, rfl, rfl, _, _, _, rfl, .inl ⟨_, rfl⟩, ?_⟩
      refine q' _ H4 (Same.refl _) ?_
      have hw := wf i hi'
      exact congrArg V.bl (decide_eq_true ⟨by omega, by omega⟩)
    · obtain ⟨bs, e, hb⟩ := all_yes hp
      refine ⟨D, bs, rfl, sql (by rw [hy, e]), ?_⟩
      rw [hb]
      exact q H2 s1
def worksV (c r : Nat) : List V := [.int (c : Int), .int (r : Int)]
def sp_is_works (K : PySem.W.Frag) : Sp := fun vs H Q _ => ∃ a c r, vs = [.ref a] ∧ SqT K H a (worksV c r) ∧ 1 ≤ c ∧ c ≤ 6 ∧ 2 ≤ r ∧ r ≤ 20 ∧ Q (.bl true) H
theorem c_is_works (T : Txt K mg) : Cal P w K mg base CX0 2 "is_works" ["thing"] (sp_is_works K) := by
  refine cal0 T.d_is_works sc_is_works (fun _ _ _ _ _ _ us hl => match us, hl with | [_], _ => rfl) (fun vs H Q E h => ?_) (fun f cdv A outer s H vs Q E hr h => ?_)
  · obtain ⟨a, c, r, rfl, _⟩ := h
    rfl
  · obtain ⟨a, c, r, rfl, hS, h1, h2, h3, h4, q⟩ := h
    refine ⟨_, (pss_cons (ps_if (PW.pt (pw_or (pt_not (pt_val (pe_callB (isi K) rfl T.b_isinstance (by decide +kernel) (pa_cons (pv 0) (pa_cons (pe_bltn (v := .ty "tuple") rfl T.b_tuple (by decide +kernel) rfl) pa_nil))))) (pw_or (pt_cmpR op_ne (pe_callB (lenS K) rfl T.b_len PySem.boot_len (pa_cons (pv 0) pa_nil)) pe_int (nomark _)) (pw_or1 (pt_not (pt_val (pcall (c_is_whole T) (hr.mono (by omega)) (pa_cons (pe_ix (ixT K) (pv 0) pe_int (fun _ _ => rfl)) (pa_cons pe_int (pa_cons (pe_glob (v := .int 6) rfl T.i_MOST_CARTS.choose_spec ⟨_, rfl⟩) pa_nil)))))))))) (pss_one (ps_ret pe_bl)) pss_nil)
      (pss_one (ps_ret (pcall (c_is_whole T) (hr.mono (by omega)) (pa_cons (pe_ix (ixT K) (pv 0) pe_int (fun _ _ => rfl)) (pa_cons pe_int (pa_cons (pe_glob (v := .int 20) rfl T.i_MOST_ROOM.choose_spec ⟨_, rfl⟩) pa_nil))))))), ?_⟩
    refine ⟨_, rfl, .ref a, .ty "tuple", .type "tuple", .type "tuple", true, rfl, .ty "tuple", tyT hS, kit_ty (by decide +kernel), true, rfl, iteF ?_⟩
    refine ⟨_, rfl, a, _, rfl, .inr hS, rfl, false, rfl, iteF ?_⟩
    refine ⟨_, rfl, a, _, 0, _, rfl, rfl, hS, rfl, _, _, _, rfl, .inl ⟨_, rfl⟩, true, congrArg V.bl (decide_eq_true ⟨by omega, by omega⟩), iteF ?_⟩
    refine ⟨_, rfl, a, _, 1, _, rfl, rfl, hS, rfl, _, _, _, rfl, .inl ⟨_, rfl⟩, ?_⟩
    have e : isWholeV (.int (r : Int)) 2 20 = true := decide_eq_true ⟨by omega, by omega⟩
    show Q (.bl (isWholeV (.int (r : Int)) 2 20)) H
    rw [e]
    exact q
def WantsOk (W : List (Option Nat)) : Prop := ∀ (i : Nat) (u : Nat), W[i]? = some (some u) → u ≤ 999
def sp_is_wants (K : PySem.W.Frag) : Sp := fun vs H Q _ => ∃ a b L W, vs = [.ref a, .ref b] ∧ SqT K H a (landV L) ∧ SqT K H b (wantsV W) ∧ W.length = L.length + 1 ∧ L.length < 30 ∧ WantsOk W ∧ ∀ H', Same H H' → Q (.bl true) H'
theorem wantsV_len (W : List (Option Nat)) : (wantsV W).length = W.length := by simp [wantsV]
theorem wantsV_at {W : List (Option Nat)} {i : Nat} {x : V} (h : (wantsV W)[i]? = some x) : ∃ o, W[i]? = some o ∧ x = optV o := by
  unfold wantsV at h
  rw [List.getElem?_map] at h
  cases e : W[i]? with
  | none => rw [e] at h; cases h
  | some o => rw [e] at h; exact ⟨o, rfl, (Option.some.inj h).symm⟩
theorem c_is_wants (T : Txt K mg) : Cal P w K mg base CX0 2 "is_wants" ["land", "thing"] (sp_is_wants K) := by
  refine cal0 T.d_is_wants sc_is_wants (fun _ _ _ _ _ _ us hl => match us, hl with | [_, _], _ => rfl) (fun vs H Q E h => ?_) (fun f cdv A outer s H vs Q E hr h => ?_)
  · obtain ⟨a, b, L, W, rfl, _⟩ := h
    rfl
  · obtain ⟨a, b, L, W, rfl, hS, hW, hl, hL, hw, q⟩ := h
    refine ⟨_, (pss_cons (ps_if (PW.pt (pw_or (pt_not (pt_val (pe_callB (isi K) rfl T.b_isinstance (by decide +kernel) (pa_cons (pv 1) (pa_cons (pe_bltn (v := .ty "tuple") rfl T.b_tuple (by decide +kernel) rfl) pa_nil))))) (pw_or1 (pt_cmpR op_ne (pe_callB (lenS K) rfl T.b_len PySem.boot_len (pa_cons (pv 1) pa_nil)) (pe_callB (lenS K) rfl T.b_len PySem.boot_len (pa_cons (pv 0) pa_nil)) (nomark _))))) (pss_one (ps_ret pe_bl)) pss_nil)
      (pss_one (ps_ret (pe_callB (allL K rfl) rfl T.b_all (by decide +kernel) (pa_cons (pe_lc (own := [("one", 2)]) (g := gName 2) rfl sc_is_wants.nd (piT K (pv 1)) (blkOk_by (own := [("one", 2)]) (N := ["land", "thing", "one"]) (sc := (defScope s_is_wants)) (by decide +kernel)) (fun _ _ _ _ _ => pg_name (i := 2) sc_is_wants.nd rfl (Or.inl rfl)) (fun _ _ _ _ _ => pts_nil) (fun _ _ _ _ _ => (pe_or (pe_cmpR op_isN (pv 2) pe_non (nomark _)) (pe_one (pcall (c_is_whole T) (hr.mono (by omega)) (pa_cons (pv 2) (pa_cons pe_int (pa_cons (pe_glob (v := .int 999) rfl T.i_MOST_WANT.choose_spec ⟨_, rfl⟩) pa_nil)))))))) pa_nil))))), ?_⟩
    have el : (landV L).length = L.length + 1 := landV_len L
    have ew : (wantsV W).length = W.length := wantsV_len W
    refine ⟨_, rfl, .ref b, .ty "tuple", .type "tuple", .type "tuple", true, rfl, .ty "tuple", tyT hW, kit_ty (by decide +kernel), true, rfl, iteF ?_⟩
    refine ⟨_, rfl, b, _, rfl, .inr hW, _, rfl, a, _, rfl, .inr hS, rfl, false, ?_, iteF ?_⟩
    · rw [el, ew, hl]
      simp
    refine ⟨_, rfl, b, rfl, ⟨_, hW⟩, fun D hD => ?_⟩
    refine lc_rel (walk_tup (xs := wantsV W)) hD (by omega) (fun H' s => same_t s hW) (fun i => true) (fun i v _ => v = .bl true) (fun _ _ _ _ _ _ _ h => h) (fun i x H2 H3 l hi s1 hy y => ?_) (fun ys H2 s1 hy hp => ?_)
    · obtain ⟨rfl, hx⟩ := y
      obtain ⟨o, ho, rfl⟩ := wantsV_at hx
      refine ⟨Same.refl _, rfl, fun Q' q' => q' H3 (Same.refl _), fun _ H4 s4 Q' q' => ?_⟩
      cases o with
      | none => exact ⟨_, rfl, rfl, true, rfl, iteT (q' _ H4 (Same.refl _) rfl)⟩
      | some u =>
        refine ⟨_, rfl, rfl, false, rfl, iteF ?_⟩
        refine ⟨_, rfl, _, _, _, rfl, .inl ⟨_, rfl⟩, q' _ H4 (Same.refl _) ?_⟩
        have := hw i u ho
        exact congrArg V.bl (decide_eq_true ⟨by omega, by omega⟩)
    · obtain ⟨bs, e, hb⟩ := all_yes hp
      refine ⟨D, bs, rfl, sql (by rw [hy, e]), ?_⟩
      rw [hb]
      exact q H2 s1
/-! ### look_land, look_works, look_case: of those that are -/
def sp_look_land (K : PySem.W.Frag) : Sp := fun vs H Q _ => ∃ a L, vs = [.ref a] ∧ SqT K H a (landV L) ∧ L.length < 30 ∧ WfL L ∧ ∀ H', Same H H' → Q .non H'
theorem c_look_land (T : Txt K mg) : Cal P w K mg base CX0 3 "look_land" ["land"] (sp_look_land K) := by
  refine cal0 T.d_look_land sc_look_land (fun _ _ _ _ _ _ us hl => match us, hl with | [_], _ => rfl) (fun vs H Q E h => ?_) (fun f cdv A outer s H vs Q E hr h => ?_)
  · obtain ⟨a, L, rfl, _⟩ := h
    rfl
  · obtain ⟨a, L, rfl, hS, hL, wf, q⟩ := h
    refine ⟨_, (pss_one (ps_if (pt_not (pt_val (pcall (c_is_land T) (hr.mono (by omega)) (pa_cons (pv 0) pa_nil)))) (pss_one ps_never) pss_nil)), ?_⟩
    refine ⟨_, rfl, a, L, rfl, hS, hL, wf, fun H1 s1 => ⟨true, rfl, iteF (q H1 s1)⟩⟩
def sp_look_works (K : PySem.W.Frag) : Sp := fun vs H Q _ => ∃ a c r e, vs = [.ref a, .int ((e : Nat) : Int)] ∧ SqT K H a (worksV c r) ∧ 1 ≤ c ∧ c ≤ 6 ∧ 2 ≤ r ∧ r ≤ 20 ∧ e ≤ c ∧ Q .non H
theorem c_look_works (T : Txt K mg) : Cal P w K mg base CX0 3 "look_works" ["works", "left"] (sp_look_works K) := by
  refine cal0 T.d_look_works sc_look_works (fun _ _ _ _ _ _ us hl => match us, hl with | [_, _], _ => rfl) (fun vs H Q E h => ?_) (fun f cdv A outer s H vs Q E hr h => ?_)
  · obtain ⟨a, c, r, e, rfl, _⟩ := h
    rfl
  · obtain ⟨a, c, r, e, rfl, hS, h1, h2, h3, h4, h5, q⟩ := h
    refine ⟨_, (pss_one (ps_if (PW.pt (pw_or (pt_not (pt_val (pcall (c_is_works T) (hr.mono (by omega)) (pa_cons (pv 0) pa_nil)))) (pw_or1 (pt_not (pt_val (pcall (c_is_whole T) (hr.mono (by omega)) (pa_cons (pv 1) (pa_cons pe_int (pa_cons (pe_ix (ixT K) (pv 0) pe_int (fun _ _ => rfl)) pa_nil))))))))) (pss_one ps_never) pss_nil)), ?_⟩
    refine ⟨_, rfl, a, c, r, rfl, hS, h1, h2, h3, h4, true, rfl, iteF ?_⟩
    refine ⟨_, rfl, _, rfl, a, _, 0, _, rfl, rfl, hS, rfl, _, _, _, rfl, .inl ⟨_, rfl⟩, true, congrArg V.bl (decide_eq_true ⟨by omega, by omega⟩), iteF ?_⟩
    exact q
/-- a land, works, wants, carts left, as they lie -/
structure CaseAt (K : PySem.W.Frag) (H : Hp) (a b d : Addr) (c : Case) (carts : Nat) : Prop where
  l : SqT K H a (landV c.L)
  k : SqT K H b (worksV carts c.room)
  w : SqT K H d (wantsV c.W)
  n : c.L.length < 30
  wf : WfL c.L
  c1 : 1 ≤ carts
  c6 : carts ≤ 6
  r2 : 2 ≤ c.room
  r20 : c.room ≤ 21
  wl : c.W.length = c.L.length + 1
  wo : WantsOk c.W
  lf : c.left ≤ carts
theorem CaseAt.ext {H H' : Hp} {a b d : Addr} {c : Case} {carts : Nat} (h : CaseAt K H a b d c carts) (s : Ext H H') : CaseAt K H' a b d c carts :=
  ⟨s.t h.l, s.t h.k, s.t h.w, h.n, h.wf, h.c1, h.c6, h.r2, h.r20, h.wl, h.wo, h.lf⟩
theorem CaseAt.same {H H' : Hp} {a b d : Addr} {c : Case} {carts : Nat} (h : CaseAt K H a b d c carts) (s : Same H H') : CaseAt K H' a b d c carts := h.ext (ext_of s)
def sp_look_case (K : PySem.W.Frag) : Sp := fun vs H Q _ => ∃ a b d c carts, vs = [.ref a, .ref b, .ref d, .int ((c.left : Nat) : Int)] ∧ CaseAt K H a b d c carts ∧ c.room ≤ 20 ∧ ∀ H', Same H H' → Q .non H'
theorem c_look_case (T : Txt K mg) : Cal P w K mg base CX0 4 "look_case" ["land", "works", "wants", "left"] (sp_look_case K) := by
  refine cal0 T.d_look_case sc_look_case (fun _ _ _ _ _ _ us hl => match us, hl with | [_, _, _, _], _ => rfl) (fun vs H Q E h => ?_) (fun f cdv A outer s H vs Q E hr h => ?_)
  · obtain ⟨a, b, d, c, carts, rfl, _⟩ := h
    rfl
  · obtain ⟨a, b, d, c, carts, rfl, hC, hr20, q⟩ := h
    refine ⟨_, (pss_cons (ps_expr (pcall (c_look_land T) (hr.mono (by omega)) (pa_cons (pv 0) pa_nil)))
      (pss_cons (ps_expr (pcall (c_look_works T) (hr.mono (by omega)) (pa_cons (pv 1) (pa_cons (pv 3) pa_nil))))
      (pss_one (ps_if (pt_not (pt_val (pcall (c_is_wants T) (hr.mono (by omega)) (pa_cons (pv 0) (pa_cons (pv 2) pa_nil))))) (pss_one ps_never) pss_nil)))), ?_⟩
    refine ⟨_, rfl, a, c.L, rfl, hC.l, hC.n, hC.wf, fun H1 s1 => ?_⟩
    refine ⟨_, rfl, _, rfl, b, carts, c.room, c.left, rfl, same_t s1 hC.k, hC.c1, hC.c6, hC.r2, hr20, hC.lf, ?_⟩
    refine ⟨_, rfl, _, rfl, a, d, c.L, c.W, rfl, same_t s1 hC.l, same_t s1 hC.w, hC.wl, hC.n, hC.wo, fun H2 s2 => ?_⟩
    exact ⟨true, rfl, iteF (q H2 (s1.trans s2))⟩
end
end Oa
namespace Oat
/-! ### what the tables of partings are like -/
def Good (left m : Nat) (F : Fnd) : Prop := (F.map (·.1)).Nodup ∧ ∀ e ∈ F, e.1 ≤ left ∧ e.2.2.length = m
theorem mem_dput {α : Type} {F : List (Nat × α)} {k : Nat} {a : α} {x : Nat × α} (h : x ∈ dput F k a) : x ∈ F ∨ x = (k, a) := by
  induction F with
  | nil => exact .inr (List.mem_singleton.mp h)
  | cons y F ih =>
    obtain ⟨j, b⟩ := y
    by_cases e : j = k
    · simp only [dput, if_pos e] at h
      rcases List.mem_cons.mp h with h | h
      · exact .inr (by rw [h, e])
      · exact .inl (List.mem_cons_of_mem _ h)
    · simp only [dput, if_neg e] at h
      rcases List.mem_cons.mp h with h | h
      · exact .inl (by rw [h]; exact List.mem_cons_self)
      · rcases ih h with h | h
        · exact .inl (List.mem_cons_of_mem _ h)
        · exact .inr h
theorem mem_dget {α : Type} {F : List (Nat × α)} {k : Nat} {a : α} (h : dget F k = some a) : (k, a) ∈ F := by
  induction F with
  | nil => cases h
  | cons y F ih =>
    obtain ⟨j, b⟩ := y
    by_cases e : j = k
    · simp only [dget, if_pos e] at h
      rw [← Option.some.inj h, e]
      exact List.mem_cons_self
    · simp only [dget, if_neg e] at h
      exact List.mem_cons_of_mem _ (ih h)
theorem good_nil (left m : Nat) : Good left m [] := ⟨List.nodup_nil, fun _ h => by cases h⟩
theorem good_add {left m used : Nat} {u : Int × List Nat} {acc : Fnd} {s : Nat × Int} (g : Good left (m + 1) acc) (hu : u.2.length = m) : Good left (m + 1) (addRow left used u acc s) := by
  unfold addRow
  split
  · rename_i hle
    refine ⟨Oa.dput_keys _ _ _ g.1, fun e he => ?_⟩
    rcases mem_dput he with h | h
    · exact g.2 e h
    · subst h
      refine ⟨hle, ?_⟩
      show (rmin _ _).2.length = m + 1
      unfold rmin
      have hr : (u.2 ++ [s.1]).length = m + 1 := by simp [hu]
      split
      · exact hr
      · cases z : dget acc (used + s.1) with
        | none => exact hr
        | some o => exact (g.2 _ (mem_dget z)).2
  · exact g
theorem good_inner {left m used : Nat} {u : Int × List Nat} (hu : u.2.length = m) : ∀ (t : List (Nat × Int)) (acc : Fnd), Good left (m + 1) acc → Good left (m + 1) (t.foldl (addRow left used u) acc)
  | [], _, g => g
  | _ :: t, _, g => good_inner hu t _ (good_add g hu)
theorem good_mid {left m : Nat} {t : List (Nat × Int)} : ∀ (F : Fnd) (acc : Fnd), (∀ e ∈ F, e.2.2.length = m) → Good left (m + 1) acc → Good left (m + 1) (F.foldl (fun acc e => t.foldl (addRow left e.1 e.2) acc) acc)
  | [], _, _, g => g
  | e :: F, _, h, g => good_mid F _ (fun e he => h e (List.mem_cons_of_mem _ he)) (good_inner (h e List.mem_cons_self) t _ g)
theorem good_step {left m : Nat} {F : Fnd} {t : List (Nat × Int)} (g : Good left m F) : Good left (m + 1) (stepBest left F t) := good_mid F [] (fun e he => (g.2 e he).2) (good_nil _ _)
theorem good_foldl {left : Nat} : ∀ (ts : List (List (Nat × Int))) (m : Nat) (F : Fnd), Good left m F → Good left (m + ts.length) (ts.foldl (stepBest left) F)
  | [], _, _, g => g
  | t :: ts, m, F, g => by
    have := good_foldl ts (m + 1) _ (good_step (t := t) g)
    rw [List.length_cons, show m + (ts.length + 1) = m + 1 + ts.length by omega]
    exact this
theorem good_bestF (ts : List (List (Nat × Int))) (left : Nat) : Good left ts.length (bestF ts left) := by
  have := good_foldl (left := left) ts 0 [(0, (0, []))] ⟨by simp, fun e he => by simp at he; subst he; exact ⟨Nat.zero_le _, rfl⟩⟩
  rw [Nat.zero_add] at this
  exact this
theorem nodup_le : ∀ (n : Nat) (l : List Nat), l.Nodup → (∀ x ∈ l, x < n) → l.length ≤ n
  | 0, l, _, h => by
    cases l with
    | nil => exact Nat.le_refl _
    | cons x l => exact absurd (h x List.mem_cons_self) (Nat.not_lt_zero _)
  | n + 1, l, nd, h => by
    by_cases m : n ∈ l
    · have := nodup_le n (l.erase n) (nd.erase n) fun x hx => by
        have h1 := h x (List.mem_of_mem_erase hx)
        have h2 : x ≠ n := fun e => by
          subst e
          exact (List.Nodup.not_mem_erase nd) hx
        omega
      rw [List.length_erase_of_mem m] at this
      omega
    · have := nodup_le n l nd fun x hx => by
        have h1 := h x hx
        have h2 : x ≠ n := fun e => m (e ▸ hx)
        omega
      omega
theorem Good.len {left m : Nat} {F : Fnd} (g : Good left m F) : F.length ≤ left + 1 := by
  have := nodup_le (left + 1) (F.map (·.1)) g.1 fun x hx => by
    obtain ⟨e, he, rfl⟩ := List.mem_map.mp hx
    have := (g.2 e he).1
    omega
  simpa using this
theorem best_none {ts : List (List (Nat × Int))} {left : Nat} : best ts left = none ↔ bestF ts left = [] := by
  unfold best
  cases bestF ts left <;> simp
theorem bestF_take {ts : List (List (Nat × Int))} {left i : Nat} {t : List (Nat × Int)} (h : ts[i]? = some t) : bestF (ts.take (i + 1)) left = stepBest left (bestF (ts.take i) left) t := by
  unfold bestF
  rw [List.take_add_one, h, List.foldl_append]
  rfl
/-! ### going out -/
def goes (room : Nat) (need : Int) (e : Nat) : Option Int := if e = 0 ∧ need = 0 then some 0 else outF room need e
theorem outF_pos {room e : Nat} {need o : Int} (hr : 2 ≤ room) (h : outF room need e = some o) : 1 ≤ o ∧ (e : Int) ≤ o := by
  unfold outF at h
  split at h
  · have := Option.some.inj h
    omega
  · rename_i c
    split at h
    · cases h
    · rename_i c2
      have h := Option.some.inj h
      have hp : (0 : Int) < (room : Int) - 2 := by omega
      have h1 : ((e : Int) - need) < (-((max e 1 : Nat) : Int)) * ((room : Int) - 2) := by
        rw [Int.neg_mul]
        omega
      have h2 := Int.ediv_lt_of_lt_mul hp h1
      omega
theorem goes_out {room e : Nat} {need : Int} (hr : 2 ≤ room) : (goes room need e).map (fun t => max t 1) = outF room need e := by
  unfold goes
  split
  · rename_i c
    obtain ⟨rfl, rfl⟩ := c
    unfold outF
    rw [if_pos (by simp; omega)]
    rfl
  · cases h : outF room need e with
    | none => rfl
    | some o =>
      have := outF_pos hr h
      simp only [Option.map_some]
      congr 1
      omega
end Oat
namespace Oa
open PySem PySem.Spec PyProof.Rows L2 Oat
section
variable {P : Program} {w : World} {K : PySem.W.Frag} {mg : Str → Option Value} {base : Heap}
def oiV : Option Int → V
  | none => .non
  | some i => .int i
def sp_going_out : Sp := fun vs H Q _ => ∃ (room left : Nat) (need : Int), vs = [.int (room : Int), .int need, .int (left : Int)] ∧ 2 ≤ room ∧ room ≤ 21 ∧ left ≤ 6 ∧ Q (oiV (goes room need left)) H
theorem c_going_out (T : Txt K mg) : Cal P w K mg base CX0 1 "going_out" ["room", "need", "left"] sp_going_out := by
  refine cal0 T.d_going_out sc_going_out (fun _ _ _ _ _ _ us hl => match us, hl with | [_, _, _], _ => rfl) (fun vs H Q E h => ?_) (fun f cdv A outer s H vs Q E hr h => ?_)
  · obtain ⟨a, L, p, rfl, _⟩ := h
    rfl
  · obtain ⟨room, left, need, rfl, h2, h21, h6, q⟩ := h
    refine ⟨_, (pss_cons (ps_set (i := 3) sc_going_out.nd rfl (Or.inl rfl) (pv 2))
      (pss_cons (ps_if (PW.pt (pw_and (pt_cmpR op_eq (pv 3) pe_int (nomark _)) (pw_and1 (pt_cmpR op_eq (pv 1) pe_int (nomark _))))) (pss_one (ps_ret pe_int)) pss_nil)
      (pss_cons (ps_set (i := 3) sc_going_out.nd rfl (Or.inl rfl) (pe_callB (call_max2 rfl) rfl T.b_max (by decide +kernel) (pa_cons (pv 3) (pa_cons pe_int pa_nil))))
      (pss_cons (ps_if (pt_cmpR op_lt (pe_op op_add (pe_op op_mul (pv 3) (pe_op op_sub (pv 0) pe_int)) (pv 2)) (pv 1) (nomark _)) (pss_cons (ps_if (pt_cmpR op_eq (pv 0) pe_int (nomark _)) (pss_one (ps_ret pe_non)) pss_nil)
      (pss_one (ps_set (i := 3) sc_going_out.nd rfl (Or.inl rfl) (pe_un un_neg (pe_op op_fdiv (pe_op op_sub (pv 2) (pv 1)) (pe_op op_sub (pv 0) pe_int)))))) pss_nil)
      (pss_one (ps_ret (pv 3))))))), ?_⟩
    refine ⟨_, rfl, ?_⟩
    dsimp only [gName]
    refine if0s (b := decide (left = 0) && decide (need = 0)) (t0_and (a := decide (left = 0)) (b := decide (need = 0)) (fun Q' q' => ⟨_, rfl, rfl, _, rfl, ?_⟩) (fun _ Q' q' => ⟨_, rfl, rfl, _, rfl, ?_⟩)) (fun c => ?_) (fun c => ?_)
    · rw [show decide (V.int (left : Int) = V.int 0) = decide (left = 0) from decide_eq_decide.mpr ⟨fun h => by injection h with h; omega, fun h => by rw [h]; rfl⟩]
      exact q'
    · rw [show decide (V.int need = V.int 0) = decide (need = 0) from decide_eq_decide.mpr ⟨fun h => V.int.inj h, fun h => by rw [h]⟩]
      exact q'
    · have c := Bool.and_eq_true_iff.mp c
      have e : goes room need left = some 0 := if_pos ⟨of_decide_eq_true c.1, of_decide_eq_true c.2⟩
      rw [e] at q
      exact q
    · have nz : ¬ (left = 0 ∧ need = 0) := fun z => by
        rw [decide_eq_true z.1, decide_eq_true z.2] at c
        cases c
      have eg : goes room need left = outF room need left := if_neg nz
      rw [eg] at q
      have em : (if (1 : Int) > (left : Int) then (1 : Int) else (left : Int)) = ((max left 1 : Nat) : Int) := by
        split <;> omega
      refine ⟨_, rfl, _, _, rfl, ?_⟩
      show (tSeq _ _) _ [some (.int (room : Int)), some (.int need), some (.int (left : Int)), some (.int (if (1 : Int) > (left : Int) then (1 : Int) else (left : Int)))] H
      rw [em]
      refine ⟨_, rfl, _, rfl, _, _, rfl, rfl, _, _, rfl, rfl, .inl ⟨by omega, by omega⟩, _, rfl, _, _, rfl, rfl, _, rfl, _, _, rfl, rfl, _, rfl, ite2 (fun c => ?_) (fun c => ?_)⟩
      · have c := of_decide_eq_true c
        refine ⟨_, rfl, rfl, _, rfl, ite2 (fun c2 => ?_) (fun c2 => ?_)⟩
        · have c2 : (room : Int) = 2 := V.int.inj (of_decide_eq_true c2)
          have eo : outF room need left = none := by
            unfold outF
            rw [if_neg (by omega), if_pos (by omega)]
          rw [eo] at q
          exact q
        · have c2 : ¬ room = 2 := fun z => c2 (decide_eq_true (by rw [z]; rfl))
          have eo : outF room need left = some (-(((left : Int) - need) / ((room : Int) - 2))) := by
            unfold outF
            rw [if_neg (by omega), if_neg c2]
          rw [eo] at q
          refine ⟨_, rfl, _, rfl, _, _, rfl, rfl, _, rfl, _, _, rfl, rfl, _, _, rfl, rfl, ⟨by omega, by omega⟩, _, rfl, _, rfl, ?_⟩
          exact q
      · have c := of_decide_eq_false (Bool.eq_false_iff.mpr c)
        have eo : outF room need left = some ((max left 1 : Nat) : Int) := by
          unfold outF
          rw [if_pos (by omega)]
        rw [eo] at q
        exact ⟨_, rfl, q⟩
end
end Oa
namespace Oa
open PySem PySem.Spec PyProof.Rows L2 Oat
section
variable {P : Program} {w : World} {K : PySem.W.Frag} {mg : Str → Option Value} {base : Heap}
/-- the head of a row -/
def HeadAt (K : PySem.W.Frag) (H : Hp) (v : V) (t : Int) : Prop := ∃ p xs, v = .ref p ∧ SqT K H p (.int t :: xs)
theorem HeadAt.tx {H H' : Hp} {v : V} {t : Int} (h : HeadAt K H v t) (x : TExt H H') : HeadAt K H' v t := by
  obtain ⟨p, xs, e, h⟩ := h
  exact ⟨p, xs, e, x.t h⟩
/-- a table: a dict from counts to rows, by their heads -/
def TakAt (K : PySem.W.Frag) (H : Hp) (v : V) (tb : List (Nat × Int)) : Prop := ∃ d kvs, v = .ref d ∧ H d = some (.dK kvs) ∧ PairD (HeadAt K H) kvs tb
theorem TakAt.same {H H' : Hp} {v : V} {tb : List (Nat × Int)} (h : TakAt K H v tb) (s : Same H H') : TakAt K H' v tb := by
  obtain ⟨d, kvs, e, hd, hp⟩ := h
  exact ⟨d, kvs, e, s _ _ hd, pd_imp hp fun _ _ q => q.tx (same_tx s)⟩
def bestV (K : PySem.W.Frag) (H : Hp) (o : Option (Int × List Nat)) (v : V) : Prop := match o with
  | none => v = .non
  | some e => RowAt K H v e
def sp_best_parting (K : PySem.W.Frag) : Sp := fun vs H Q _ => ∃ t xs ts left, vs = [.ref t, .int ((left : Nat) : Int)] ∧ SqL K H t xs ∧ Paired (TakAt K H) xs ts ∧ (∀ tb ∈ ts, (tb.map (·.1)).Nodup) ∧ ts.length ≤ 30 ∧ left ≤ 6 ∧
  ∀ v H', Same H H' → bestV K H' (best ts left) v → Q v H'
theorem paired_at {α β : Type} {R : α → β → Prop} : ∀ {xs : List α} {ys : List β} {i : Nat} {x : α}, Paired R xs ys → xs[i]? = some x → ∃ y, ys[i]? = some y ∧ R x y
  | _, _, i, _, .nil, h => by simp at h
  | _, _, 0, x, .cons (b := y) q _, h => ⟨y, rfl, by
      have := Option.some.inj h
      subst this
      exact q⟩
  | _, _, i + 1, x, .cons _ t, h => by
    obtain ⟨y, h1, h2⟩ := paired_at (i := i) t (by simpa using h)
    exact ⟨y, by simpa using h1, h2⟩
theorem foldl_take {α β : Type} {f : β → α → β} {b : β} {xs : List α} {i : Nat} {x : α} (h : xs[i]? = some x) : (xs.take (i + 1)).foldl f b = f ((xs.take i).foldl f b) x := by
  rw [List.take_add_one, h, List.foldl_append]
  rfl
theorem c_best_parting (T : Txt K mg) : Cal P w K mg base CX0 1 "best_parting" ["tables", "left"] (sp_best_parting K) := by
  refine cal0 T.d_best_parting sc_best_parting (fun _ _ _ _ _ _ us hl => match us, hl with | [_, _], _ => rfl) (fun vs H Q E h => ?_) (fun f cdv A outer s H vs Q E hr h => ?_)
  · obtain ⟨t, xs, ts, left, rfl, _⟩ := h
    rfl
  · obtain ⟨t, xs, ts, left, rfl, hS, hT, nds, h30, h6, q⟩ := h
    refine ⟨_, (pss_cons (ps_set (i := 2) sc_best_parting.nd rfl (Or.inr rfl) (pe_disp (pps_cons pe_int (pe_tup (pa_cons pe_int (pa_cons (pe_tup pa_nil) pa_nil))) pps_nil) rfl rfl (fun z => by cases z) (by decide)))
      (pss_cons (ps_for PassesOwn.never rfl (piL K (pv 0)) (pg_name (i := 3) sc_best_parting.nd rfl (Or.inl rfl)) (pss_cons (ps_set (i := 4) sc_best_parting.nd rfl (Or.inl rfl) pe_dnewK)
      (pss_cons (ps_lock (ps_for PassesOwn.never rfl (pi_keys (pv 2)) (pg_name (i := 5) sc_best_parting.nd rfl (Or.inl rfl)) (pss_one (ps_lock (ps_for PassesOwn.never rfl (pi_keys (pv 3)) (pg_name (i := 6) sc_best_parting.nd rfl (Or.inl rfl)) (pss_one (ps_if (pt_cmpR op_le (pe_op op_add (pv 5) (pv 6)) (pv 1) (nomark _)) (pss_cons (ps_set (i := 7) sc_best_parting.nd rfl (Or.inl rfl) (pe_tup (pa_cons (pe_op op_add (pe_ix (ixT K) (pe_dget (hu_of hr) (pv 2) (pv 5) (fun _ _ => rfl)) pe_int (fun _ _ => rfl)) (pe_ix (ixT K) (pe_dget (hu_of hr) (pv 3) (pv 6) (fun _ _ => rfl)) pe_int (fun _ _ => rfl))) (pa_cons (pe_op (catA K) (pe_ix (ixT K) (pe_dget (hu_of hr) (pv 2) (pv 5) (fun _ _ => rfl)) pe_int (fun _ _ => rfl)) (pe_tup (pa_cons (pv 6) pa_nil))) pa_nil))))
      (pss_one (ps_dput (hu_of hr) (pv 4) (pe_op op_add (pv 5) (pv 6)) (pe_callB (min2R K rfl hr.units) rfl T.b_min (by decide +kernel) (pa_cons (pe_dget2 (hu_of hr) (pv 4) (pe_op op_add (pv 5) (pv 6)) (pv 7) (by constructor <;> rfl)) (pa_cons (pv 7) pa_nil))) rfl))) pss_nil)))))))
      (pss_one (ps_set (i := 2) sc_best_parting.nd rfl (Or.inr rfl) (pv 4))))))
      (pss_one (ps_ret (pe_ifExp (pt_cmpR (op_neE hr.units0) (pv 2) pe_dnewK (nomark _)) (pe_callB (minLR K rfl hr.units) rfl T.b_min (by decide +kernel) (pa_cons (pe_lock (pe_lc (own := [("used", 5)]) (g := gName 5) rfl sc_best_parting.nd (pi_keys (pv 2)) (blkOk_by (own := [("used", 5)]) (N := ["tables", "left", "found", "table", "fresh", "used", "some", "row"]) (sc := (defScope s_best_parting)) (by decide +kernel)) (fun _ _ _ _ _ => pg_name (i := 5) sc_best_parting.nd rfl (Or.inl rfl)) (fun _ _ _ _ _ => pts_nil) (fun _ _ _ _ _ => (pe_dget (hu_of hr) (pv 2) (pv 5) (fun _ _ => rfl))))) pa_nil)) pe_non))))), ?_⟩
    -- found = {0: (0, ())}
    refine fun fa nfa => ?_
    refine ⟨Nat.zero_le _, fun e0 ne0 => ⟨(by show 2 ≤ sizeLine; decide), fun r0 nr0 => ?_⟩⟩
    have n1 : fa ≠ e0 := ne_of_none upd_same ne0
    have n2 : fa ≠ r0 := ne_of_none (show (upd (upd H fa (.dK [])) e0 (.tup [])) fa = some (.dK []) by rw [upd_ne n1, upd_same]) nr0
    have n3 : e0 ≠ r0 := ne_of_none upd_same nr0
    refine ⟨by rw [upd_ne n2, upd_ne n1, upd_same], [(.inl 0, .ref r0)], rfl, (by show 1 ≤ 15; decide), ?_⟩
    have s0 : Same H (upd (upd (upd (upd H fa (.dK [])) e0 (.tup [])) r0 (.tup [.int 0, .ref e0])) fa (.dK (mergeK [] [(.inl 0, .ref r0)]))) := by
      refine same_mut (((same_new nfa).trans (same_new ne0)).trans (same_new nr0)) nfa
    have f0 : (upd (upd (upd (upd H fa (.dK [])) e0 (.tup [])) r0 (.tup [.int 0, .ref e0])) fa (.dK (mergeK [] [(.inl 0, .ref r0)]))) fa = some (.dK [(.inl 0, .ref r0)]) := upd_same
    have g1 : (upd (upd (upd (upd H fa (.dK [])) e0 (.tup [])) r0 (.tup [.int 0, .ref e0])) fa (.dK (mergeK [] [(.inl 0, .ref r0)]))) r0 = some (.tup [.int 0, .ref e0]) := by rw [upd_ne n2.symm, upd_same]
    have g2 : (upd (upd (upd (upd H fa (.dK [])) e0 (.tup [])) r0 (.tup [.int 0, .ref e0])) fa (.dK (mergeK [] [(.inl 0, .ref r0)]))) e0 = some (.tup []) := by rw [upd_ne n1.symm, upd_ne n3, upd_same]
    revert s0 f0 g1 g2
    generalize (upd (upd (upd (upd H fa (.dK [])) e0 (.tup [])) r0 (.tup [.int 0, .ref e0])) fa (.dK (mergeK [] [(.inl 0, .ref r0)]))) = H1
    intro s0 f0 g1 g2
    have r0' : RowAt K H1 (.ref r0) (0, []) := ⟨r0, e0, rfl, sqt g1, sqt g2⟩
    -- for table in tables
    refine ⟨_, rfl, t, rfl, ⟨_, same_l s0 hS⟩, ?_⟩
    refine for_it (walk_list (xs := xs)) (fun i σ H2 => ∃ fa kvs y3 y4 y5 y6 y7, σ = [some (.ref t), some (.int ((left : Nat) : Int)), some (.ref fa), y3, y4, y5, y6, y7] ∧ Same H H2 ∧ H fa = none ∧ H2 fa = some (.dK kvs) ∧ PairD (RowAt K H2) kvs (bestF (ts.take i) left))
      ⟨fa, _, none, none, none, none, none, rfl, s0, nfa, f0, .cons ⟨rfl, r0'⟩ .nil⟩ (fun i σ H2 _ p => ?_) (fun i x σ H2 H3 hi p y => ?_) (fun σ H2 p => ?_)
    · obtain ⟨_, _, _, _, _, _, _, _, s1, _⟩ := p
      exact same_l s1 hS
    · obtain ⟨fa, kvs, y3, y4, y5, y6, y7, rfl, s1, nfa, f1, pd⟩ := p
      obtain ⟨rfl, hx⟩ := y
      obtain ⟨tb, htb, tk⟩ := paired_at hT hx
      obtain ⟨d, ktb, rfl, hd, pt⟩ := tk
      have ndt := nds tb (List.mem_of_getElem? htb)
      have gF := good_bestF (ts.take i) left
      have lF : (ts.take i).length ≤ 30 := by rw [List.length_take]; omega
      generalize hFe : bestF (ts.take i) left = F at pd gF
      -- fresh = {}
      refine fun fr nfr => ?_
      have nfd : fa ≠ d := fun e => by rw [e, hd] at nfa; cases nfa
      have nrd : fr ≠ d := fun e => by rw [e, s1 _ _ hd] at nfr; cases nfr
      have nfr2 : fa ≠ fr := ne_of_none f1 nfr
      have nfrH : H fr = none := s1.free nfr
      -- for used in found
      refine ⟨fa, .dK kvs, by rw [upd_ne nfr2]; exact f1, trivial, fun od => ?_⟩
      refine ⟨_, rfl, fa, od, rfl, .inl ⟨kvs, upd_same, ?_⟩⟩
      refine for_it walk_keys (fun j σ H4 => ∃ kfr y5 y6 y7, σ = [some (.ref t), some (.int ((left : Nat) : Int)), some (.ref fa), some (.ref d), some (.ref fr), y5, y6, y7] ∧ Same H H4 ∧ H4 fa = some (.frz od (.dK kvs)) ∧ H4 fr = some (.dK kfr) ∧
          PairD (RowAt K H4) kvs F ∧ PairD (RowAt K H4) kfr ((F.take j).foldl (fun acc e => tb.foldl (addRow left e.1 e.2) acc) []))
        ⟨[], y5, y6, y7, rfl, same_mut (same_mut s1 nfrH) nfa, upd_same, by rw [upd_ne nfr2.symm, upd_same], pd_imp pd fun _ _ z => z.tx ((same_tx (same_new nfr)).trans (tx_upd (by rw [upd_ne nfr2, f1]; trivial))), .nil⟩
        (fun j σ H4 _ p => ?_) (fun j x σ H4 H5 hj p y => ?_) (fun σ H4 p => ?_)
      · obtain ⟨_, _, _, _, _, _, z, _⟩ := p
        exact z
      · obtain ⟨kfr, y5, y6, y7, rfl, s2, f2, r2, pdF, pdR⟩ := p
        obtain ⟨rfl, k, v, hk, rfl⟩ := y
        obtain ⟨used, u, hu, rfl, ru⟩ := pd_at pdF hk
        have lu : u.2.length = (ts.take i).length := (gF.2 _ (List.mem_of_getElem? hu)).2
        have gR : Good left ((ts.take i).length + 1) ((F.take j).foldl (fun acc e => tb.foldl (addRow left e.1 e.2) acc) []) :=
          good_mid _ _ (fun e he => (gF.2 e (List.mem_of_mem_take he)).2) (good_nil _ _)
        have du : dget F used = some u := dget_at gF.1 hu
        rw [foldl_take hu]
        generalize ((F.take j).foldl (fun acc e => tb.foldl (addRow left e.1 e.2) acc) []) = acc0 at pdR gR
        -- for some in table
        refine ⟨d, .dK ktb, s2 _ _ hd, trivial, fun od2 => ?_⟩
        refine ⟨_, rfl, d, od2, rfl, .inl ⟨ktb, upd_same, ?_⟩⟩
        have x3 : TExt H5 (upd H5 d (.frz od2 (.dK ktb))) := tx_upd (by rw [s2 _ _ hd]; trivial)
        refine for_it walk_keys (fun m σ H6 => ∃ kfr y6 y7, σ = [some (.ref t), some (.int ((left : Nat) : Int)), some (.ref fa), some (.ref d), some (.ref fr), some (.int ((used : Nat) : Int)), y6, y7] ∧ SameBut d H H6 ∧ H6 d = some (.frz od2 (.dK ktb)) ∧ H6 fa = some (.frz od (.dK kvs)) ∧
            H6 fr = some (.dK kfr) ∧ PairD (RowAt K H6) kvs F ∧ PairD (HeadAt K H6) ktb tb ∧ PairD (RowAt K H6) kfr ((tb.take m).foldl (addRow left used u) acc0))
          ⟨kfr, y6, y7, rfl, fun b o hb e => by rw [upd_ne hb]; exact s2 b o e, upd_same, by rw [upd_ne nfd]; exact f2, by rw [upd_ne nrd]; exact r2, pd_imp pdF fun _ _ z => z.tx x3, pd_imp pt fun _ _ z => z.tx ((same_tx s2).trans x3), pd_imp pdR fun _ _ z => z.tx x3⟩
          (fun m σ H6 _ p => ?_) (fun m x σ H6 H7 hm p y => ?_) (fun σ H6 p => ?_)
        · obtain ⟨_, _, _, _, _, z, _⟩ := p
          exact z
        · obtain ⟨kfr, y6, y7, rfl, s3, f3, f4, r3, pF, pT, pR⟩ := p
          obtain ⟨rfl, k, v, hk2, rfl⟩ := y
          obtain ⟨some', tv, hs, rfl, rv⟩ := pd_at pT hk2
          have ds : dget tb some' = some tv := dget_at ndt hs
          have gR2 : Good left ((ts.take i).length + 1) ((tb.take m).foldl (addRow left used u) acc0) := good_inner lu _ _ gR
          rw [foldl_take hs]
          generalize ((tb.take m).foldl (addRow left used u) acc0) = acc at pR gR2
          have lacc : acc.length ≤ left + 1 := gR2.len
          -- if used + some <= left
          refine ⟨_, rfl, _, rfl, _, _, rfl, rfl, _, rfl, _, _, rfl, rfl, _, rfl, ite2 (fun c => ?_) (fun c => ?_)⟩
          · have c' : ((used : Nat) : Int) + ((some' : Nat) : Int) ≤ ((left : Nat) : Int) := of_decide_eq_true c
            have c2 : used + some' ≤ left := by omega
            have ek : ((used : Nat) : Int) + ((some' : Nat) : Int) = ((used + some' : Nat) : Int) := by omega
            obtain ⟨v1, hv1, p1, q1, rfl, t1, t2⟩ := (pd_get used pF).2 u du
            obtain ⟨v2, hv2, p2, xs2, rfl, t3⟩ := (pd_get some' pT).2 tv ds
            -- row = (..)
            refine ⟨_, rfl, _, rfl, fa, _, rfl, .inl ⟨kvs, .inl _, .inr ⟨od, f4⟩, rfl, hv1.symm⟩, p1, _, 0, _, rfl, rfl, t1, rfl, ?_⟩
            refine ⟨_, rfl, _, rfl, d, _, rfl, .inl ⟨ktb, .inl _, .inr ⟨od2, f3⟩, rfl, hv2.symm⟩, p2, _, 0, _, rfl, rfl, t3, atI_nat (j := 0) rfl, _, _, rfl, rfl, ?_⟩
            refine ⟨_, rfl, _, rfl, fa, _, rfl, .inl ⟨kvs, .inl _, .inr ⟨od, f4⟩, rfl, hv1.symm⟩, p1, _, 1, _, rfl, rfl, t1, rfl, ?_⟩
            refine ⟨_, rfl, (by show 1 ≤ sizeLine; decide), fun w1 nw1 => ?_⟩
            have sw : Same H7 (upd H7 w1 (.tup [.int ((some' : Nat) : Int)])) := same_new nw1
            have key : ∀ (D : Ends) (hD : ∀ σ H6, (∃ kfr y6 y7, σ = [some (.ref t), some (.int ((left : Nat) : Int)), some (.ref fa), some (.ref d), some (.ref fr), some (.int ((used : Nat) : Int)), y6, y7] ∧ SameBut d H H6 ∧ H6 d = some (.frz od2 (.dK ktb)) ∧ H6 fa = some (.frz od (.dK kvs)) ∧
                      H6 fr = some (.dK kfr) ∧ PairD (RowAt K H6) kvs F ∧ PairD (HeadAt K H6) ktb tb ∧ PairD (RowAt K H6) kfr (addRow left used u acc (some', tv))) → D.nx σ H6) (w2 : Addr) (H8 : Hp), Same H7 H8 → SqT K H8 w2 ((u.2 ++ [some']).map fun (n : Nat) => V.int (n : Int)) → ∀ w3, H8 w3 = none →
                (sDPut (tVar 4) (tOp (rI0 fun i j => .int (i + j)) (tVar 5) (tVar 6)) (tCB (rMin2R K) (tCons (tDGet2 (tVar 4) (tOp (rI0 fun i j => .int (i + j)) (tVar 5) (tVar 6)) (tVar 7)) (tCons (tVar 7) tNil))))
                    D [some (.ref t), some (.int ((left : Nat) : Int)), some (.ref fa), some (.ref d), some (.ref fr), some (.int ((used : Nat) : Int)), some (.int ((some' : Nat) : Int)), some (.ref w3)] (upd H8 w3 (.tup [.int (u.1 + tv), .ref w2])) := by
              intro D hD w2 H8 s8 t8 w3 nw3
              have s9 : Same H7 (upd H8 w3 (.tup [.int (u.1 + tv), .ref w2])) := s8.trans (same_new nw3)
              have rw' : RowAt K (upd H8 w3 (.tup [.int (u.1 + tv), .ref w2])) (.ref w3) (u.1 + tv, u.2 ++ [some']) := ⟨w3, w2, rfl, sqt upd_same, same_t (same_new nw3) t8⟩
              generalize (upd H8 w3 (.tup [.int (u.1 + tv), .ref w2])) = H9 at s9 rw'
              have r9 : H9 fr = some (.dK kfr) := s9 _ _ r3
              have pR9 : PairD (RowAt K H9) kfr acc := pd_imp pR fun _ _ z => z.tx (same_tx s9)
              have gg := pd_get (used + some') pR9
              have put : ∀ v e, RowAt K H9 v e → e = rmin ((dget acc (used + some')).getD (u.1 + tv, u.2 ++ [some'])) (u.1 + tv, u.2 ++ [some']) →
                  ∃ kfr' y6 y7', ([some (.ref t), some (.int ((left : Nat) : Int)), some (.ref fa), some (.ref d), some (.ref fr), some (.int ((used : Nat) : Int)), some (.int ((some' : Nat) : Int)), some (.ref w3)] : L2.St) = [some (.ref t), some (.int ((left : Nat) : Int)), some (.ref fa), some (.ref d), some (.ref fr), some (.int ((used : Nat) : Int)), y6, y7'] ∧ SameBut d H (upd H9 fr (.dK (putK kfr (.inl ((used + some' : Nat) : Int)) v))) ∧ (upd H9 fr (.dK (putK kfr (.inl ((used + some' : Nat) : Int)) v))) d = some (.frz od2 (.dK ktb)) ∧ (upd H9 fr (.dK (putK kfr (.inl ((used + some' : Nat) : Int)) v))) fa = some (.frz od (.dK kvs)) ∧
                      (upd H9 fr (.dK (putK kfr (.inl ((used + some' : Nat) : Int)) v))) fr = some (.dK kfr') ∧ PairD (RowAt K (upd H9 fr (.dK (putK kfr (.inl ((used + some' : Nat) : Int)) v)))) kvs F ∧ PairD (HeadAt K (upd H9 fr (.dK (putK kfr (.inl ((used + some' : Nat) : Int)) v)))) ktb tb ∧ PairD (RowAt K (upd H9 fr (.dK (putK kfr (.inl ((used + some' : Nat) : Int)) v)))) kfr' (addRow left used u acc (some', tv)) := by
                intro v e hv he
                have x9 : TExt H9 (upd H9 fr (.dK (putK kfr (.inl ((used + some' : Nat) : Int)) v))) := tx_upd (by rw [r9]; trivial)
                refine ⟨_, _, _, rfl, fun b o hb e => ?_, by rw [upd_ne nrd.symm]; exact s9 _ _ f3, by rw [upd_ne nfr2]; exact s9 _ _ f4, upd_same, pd_imp pF fun _ _ z => z.tx ((same_tx s9).trans x9), pd_imp pT fun _ _ z => z.tx ((same_tx s9).trans x9), ?_⟩
                · rw [upd_ne (ne_of_none e nfrH)]
                  exact s9 _ _ (s3 b o hb e)
                · have ea : addRow left used u acc (some', tv) = dput acc (used + some') e := by
                    unfold addRow
                    rw [if_pos c2, he]
                  rw [ea]
                  exact pd_put gR2.1 (pd_imp pR9 fun _ _ z => z.tx x9) (hv.tx x9)
              refine ⟨_, rfl, fr, rfl, .inl ⟨kfr, .inl r9⟩, _, rfl, _, rfl, _, _, rfl, rfl, _, rfl, valV kfr (.inl ((used + some' : Nat) : Int)), .inl ⟨kfr, .inl ((used + some' : Nat) : Int), .inl r9, congrArg V.int ek, rfl⟩, ?_⟩
              cases hg : dget acc (used + some') with
              | none =>
                rw [gg.1 hg]
                refine ⟨_, rfl, _, _, _, _, rfl, rw'.dp, rw'.dp, _, rfl, _, rfl, _, rfl, _, _, rfl, rfl, fr, _, rfl, .inl ⟨kfr, .inl ((used + some' : Nat) : Int), r9, congrArg V.int ek, Nat.lt_of_le_of_lt (show kfr.length ≤ 1000 by rw [pd_len pR9]; omega) (small1000 (Nat.le_refl _)), rfl⟩, ?_⟩
                have ev : (if rlt (u.1 + tv, u.2 ++ [some']) (u.1 + tv, u.2 ++ [some']) = true then V.ref w3 else V.ref w3) = V.ref w3 := by split <;> rfl
                exact hD _ _ (ev.symm ▸ put (.ref w3) _ rw' (by rw [hg]; unfold rmin; split <;> rfl))
              | some old =>
                obtain ⟨vo, hvo, ro⟩ := gg.2 old hg
                rw [hvo]
                refine ⟨_, rfl, _, _, _, _, rfl, ro.dp, rw'.dp, _, rfl, _, rfl, _, rfl, _, _, rfl, rfl, fr, _, rfl, .inl ⟨kfr, .inl ((used + some' : Nat) : Int), r9, congrArg V.int ek, Nat.lt_of_le_of_lt (show kfr.length ≤ 1000 by rw [pd_len pR9]; omega) (small1000 (Nat.le_refl _)), rfl⟩, ?_⟩
                refine hD _ _ (put _ (rmin old (u.1 + tv, u.2 ++ [some'])) ?_ (by rw [hg]; rfl))
                unfold rmin
                split
                · exact rw'
                · exact ro
            refine ⟨q1, w1, _, _, rfl, rfl, same_t sw t2, sqt upd_same, ?_, fun e => ⟨(by show 2 ≤ sizeLine; decide), fun w3 nw3 => ?_⟩, fun _ z => (List.cons_ne_nil _ _ z).elim, fun ne _ p np => ⟨(by show 2 ≤ sizeLine; decide), fun w3 nw3 => ?_⟩⟩
            · rw [List.length_map, lu]
              exact Nat.le_trans (show (ts.take i).length + 1 ≤ 1000 by omega) (Nat.le_of_lt (small1000 (Nat.le_refl _)))
            · dsimp only [gName]
              refine key _ (fun _ _ h => h) w1 _ sw (sqt ?_) w3 nw3
              rw [upd_same]
              have : u.2 = [] := by simpa using e
              rw [this]
              rfl
            · dsimp only [gName]
              refine key _ (fun _ _ h => h) p _ (sw.trans (same_new np)) (sqt ?_) w3 nw3
              rw [upd_same, List.map_append]
              rfl
          · have c' : ¬ ((used : Nat) : Int) + ((some' : Nat) : Int) ≤ ((left : Nat) : Int) := of_decide_eq_false (Bool.eq_false_iff.mpr c)
            refine ⟨kfr, _, y7, rfl, s3, f3, f4, r3, pF, pT, ?_⟩
            unfold addRow
            rw [if_neg (by show ¬ used + some' ≤ left; omega)]
            exact pR
        · obtain ⟨kfr, y6, y7, rfl, s3, f3, f4, r3, pF, pT, pR⟩ := p
          refine ⟨f3, ?_⟩
          have hlen : ktb.length = tb.length := pd_len pT
          rw [hlen, List.take_length] at pR
          have x4 : TExt H6 (upd H6 d (.dK ktb)) := tx_upd (by rw [f3]; trivial)
          refine ⟨kfr, _, y6, y7, rfl, fun b o e => ?_, by rw [upd_ne nfd]; exact f4, by rw [upd_ne nrd]; exact r3, pd_imp pF fun _ _ z => z.tx x4, pd_imp pR fun _ _ z => z.tx x4⟩
          by_cases hb : b = d
          · subst hb
            rw [hd] at e
            cases e
            exact upd_same
          · rw [upd_ne hb]
            exact s3 b o hb e
      · obtain ⟨kfr, y5, y6, y7, rfl, s2, f2, r2, pdF, pdR⟩ := p
        refine ⟨f2, ?_⟩
        have hlen : kvs.length = F.length := pd_len pdF
        rw [hlen, List.take_length] at pdR
        have x4 : TExt H4 (upd H4 fa (.dK kvs)) := tx_upd (by rw [f2]; trivial)
        refine ⟨_, rfl, ?_⟩
        refine ⟨fr, kfr, _, _, _, _, _, rfl, same_mut s2 nfa, nfrH, by rw [upd_ne nfr2.symm]; exact r2, ?_⟩
        rw [bestF_take htb, hFe]
        exact pd_imp pdR fun _ _ z => z.tx x4
    · obtain ⟨fa, kvs, y3, y4, y5, y6, y7, rfl, s1, nfa, f1, pd⟩ := p
      have ex : xs.length = ts.length := Paired.length hT
      rw [ex, List.take_length] at pd
      have gF := good_bestF ts left
      -- found != {}
      refine ⟨_, rfl, fun e0 ne0 => ?_⟩
      have s2 : Same H2 (upd H2 e0 (.dK [])) := same_new ne0
      refine ⟨fa, e0, kvs, rfl, rfl, s2 _ _ f1, upd_same, _, rfl, ?_⟩
      cases hF : bestF ts left with
      | nil =>
        rw [hF] at pd
        cases pd
        refine iteF (q _ _ (s1.trans s2) ?_)
        rw [best_none.mpr hF]
        rfl
      | cons e F =>
        have hk : kvs ≠ [] := fun z => by
          rw [z, hF] at pd
          cases pd
        have hk2 : (!kvs.isEmpty) = true := by
          cases kvs with
          | nil => exact absurd rfl hk
          | cons _ _ => rfl
        rw [hk2]
        refine iteT ?_
        have f2 := s2 _ _ f1
        have pd2 : PairD (RowAt K (upd H2 e0 (.dK []))) kvs (bestF ts left) := pd_imp pd fun _ _ z => z.tx (same_tx s2)
        have s3 := s1.trans s2
        generalize (upd H2 e0 (.dK [])) = H3 at f2 pd2 s3
        -- [found[used] for used in found]
        refine ⟨fa, .dK kvs, f2, trivial, fun od => ?_⟩
        have x3 : TExt H3 (upd H3 fa (.frz od (.dK kvs))) := tx_upd (by rw [f2]; trivial)
        refine ⟨_, rfl, fa, od, rfl, .inl ⟨kvs, upd_same, fun D hD => ?_⟩⟩
        refine lc_rel walk_keys hD (by rw [pd_len pd2]; have := gF.len; omega) (fun H' s => s _ _ upd_same) (fun i => true) (fun i v H' => ∃ e, (bestF ts left)[i]? = some e ∧ RowAt K H' v e.2)
          (fun i v H4 H5 l hl sb r => ?_) (fun i x H4 H5 l hi s4 hy y => ?_) (fun ys H4 s4 hy hp => ?_)
        · obtain ⟨e, he, r⟩ := r
          refine ⟨e, he, r.tx fun a xs z => ?_⟩
          have hne : a ≠ D := by
            rintro rfl
            rcases z with z | ⟨ob, z⟩
            · rw [hl] at z
              cases z
            · rw [hl] at z
              cases z
          rcases z with z | ⟨ob, z⟩
          · exact .inl (sb _ _ hne z)
          · exact .inr ⟨ob, sb _ _ hne z⟩
        · obtain ⟨rfl, k, v, hk, rfl⟩ := y
          obtain ⟨n, e, he, rfl, re⟩ := pd_at pd2 hk
          have dg : dget (bestF ts left) n = some e := dget_at gF.1 he
          obtain ⟨v1, hv1, r1⟩ := (pd_get n pd2).2 e dg
          refine ⟨Same.refl _, rfl, fun Q' q' => q' H5 (Same.refl _), fun _ H6 s6 Q' q' => ?_⟩
          refine ⟨_, rfl, _, rfl, fa, v1, rfl, .inl ⟨kvs, .inl _, .inr ⟨od, (s4.trans s6) _ _ upd_same⟩, rfl, hv1.symm⟩, ?_⟩
          exact q' v1 H6 (Same.refl _) ⟨_, he, r1.tx (x3.trans ((same_tx s4).trans (same_tx s6)))⟩
        · refine ⟨s4 _ _ upd_same, ?_⟩
          have hfz : H4 fa = some (.frz od (.dK kvs)) := s4 _ _ upd_same
          have x4 : TExt H4 (upd H4 fa (.dK kvs)) := tx_upd (by rw [hfz]; trivial)
          have hDf : D ≠ fa := fun e => by rw [e, upd_same] at hD; cases hD
          have hpr : Paired (fun v e => Dp K (upd H4 fa (.dK kvs)) v (rowD e)) ys ((bestF ts left).map (·.2)) := by
            have h0 : (List.range kvs.length).filter (fun _ => true) = List.range kvs.length := by simp
            rw [h0, pd_len pd2] at hp
            have : ∀ (F G : Fnd) (ys : List V), Paired (fun i v => ∃ e, (F ++ G)[i]? = some e ∧ RowAt K H4 v e.2) (List.range' F.length G.length) ys → Paired (fun v e => Dp K (upd H4 fa (.dK kvs)) v (rowD e)) ys (G.map (·.2)) := by
              intro F G
              induction G generalizing F with
              | nil => intro ys h; cases h; exact .nil
              | cons g G ih =>
                intro ys h
                rw [List.length_cons, List.range'_succ] at h
                cases h with
                | cons a b =>
                  obtain ⟨e, he, r⟩ := a
                  have e1 : e = g := by
                    rw [List.getElem?_append_right (Nat.le_refl _), Nat.sub_self] at he
                    exact (Option.some.inj he).symm
                  subst e1
                  refine .cons (r.tx x4).dp (ih (F ++ [e]) _ ?_)
                  rw [List.append_assoc, List.length_append]
                  exact b
            have := this [] (bestF ts left) ys (by rw [List.nil_append, List.length_nil, ← List.range_eq_range']; exact hp)
            exact this
          rw [hF, List.map_cons] at hpr
          refine ⟨D, ys, e.2, _, rfl, sql (by rw [upd_ne hDf]; exact hy), hpr, fun v hv => ?_⟩
          refine q v _ (s3.trans (lock_same f2 s4)) ?_
          have eb : best ts left = some ((F.map (·.2)).foldl rmin e.2) := by
            unfold best
            rw [hF, List.foldl_map]
          rw [eb]
          exact rowAt_dp hv
end
end Oa
namespace Oat
/-! ### is_called, from behind -/
def callAt (L : List Nat) (W : List (Option Nat)) (j q : Nat) : Bool := (W.getD q none).isSome || (kids L q).any fun k => decide (j ≤ k) && wanted L W k
theorem callAt_own {L : List Nat} {W : List (Option Nat)} (wf : WfL L) {k : Nat} (hk : k ≤ L.length) : callAt L W (k + 1) k = wanted L W k := by
  rw [wanted_eq wf hk]
  unfold callAt
  congr 1
  rw [Bool.eq_iff_iff, List.any_eq_true, List.any_eq_true]
  constructor
  · rintro ⟨x, hx, e⟩
    exact ⟨x, hx, (Bool.and_eq_true_iff.mp e).2⟩
  · rintro ⟨x, hx, e⟩
    have := kids_gt wf hx
    exact ⟨x, hx, by rw [e, decide_eq_true (by omega)]; rfl⟩
theorem callAt_low {L : List Nat} {W : List (Option Nat)} (wf : WfL L) {p : Nat} (hp : p ≤ L.length) : callAt L W 1 p = wanted L W p := by
  rw [wanted_eq wf hp]
  unfold callAt
  congr 1
  rw [Bool.eq_iff_iff, List.any_eq_true, List.any_eq_true]
  constructor
  · rintro ⟨x, hx, e⟩
    exact ⟨x, hx, (Bool.and_eq_true_iff.mp e).2⟩
  · rintro ⟨x, hx, e⟩
    have := kids_gt wf hx
    exact ⟨x, hx, by rw [e, decide_eq_true (by omega)]; rfl⟩
theorem callAt_top {L : List Nat} {W : List (Option Nat)} (wf : WfL L) (q : Nat) : callAt L W (L.length + 1) q = (W.getD q none).isSome := by
  unfold callAt
  have : ((kids L q).any fun k => decide (L.length + 1 ≤ k) && wanted L W k) = false := by
    rw [Bool.eq_false_iff]
    intro h
    obtain ⟨x, hx, e⟩ := List.any_eq_true.mp h
    have := kids_gt wf hx
    have := of_decide_eq_true (Bool.and_eq_true_iff.mp e).1
    omega
  rw [this, Bool.or_false]
/-- one turn: place i + 1 -/
theorem callAt_turn {L : List Nat} {W : List (Option Nat)} {i : Nat} (hi : i < L.length) (q : Nat) : callAt L W (i + 1) q = (callAt L W (i + 2) q || (decide (L.getD i 0 = q) && wanted L W (i + 1))) := by
  unfold callAt
  rw [Bool.or_assoc]
  congr 1
  rw [Bool.eq_iff_iff, Bool.or_eq_true, List.any_eq_true, List.any_eq_true]
  simp only [Bool.and_eq_true, decide_eq_true_eq]
  constructor
  · rintro ⟨x, hx, h1, h2⟩
    by_cases e : x = i + 1
    · subst e
      obtain ⟨j, h3, h4, h5⟩ := mem_kids.mp hx
      have : j = i := by omega
      subst this
      exact .inr ⟨h4, h2⟩
    · exact .inl ⟨x, hx, by omega, h2⟩
  · rintro (⟨x, hx, h1, h2⟩ | ⟨h1, h2⟩)
    · exact ⟨x, hx, by omega, h2⟩
    · exact ⟨i + 1, mem_kids.mpr ⟨i, hi, h1, rfl⟩, Nat.le_refl _, h2⟩
end Oat
namespace Oa
open PySem PySem.Spec PyProof.Rows L2 Oat
section
variable {P : Program} {w : World} {K : PySem.W.Frag} {mg : Str → Option Value} {base : Heap}
/-! ### own_need -/
theorem wantsV_get {W : List (Option Nat)} {p : Nat} (h : p < W.length) : (wantsV W)[p]? = some (optV (W.getD p none)) := by
  unfold wantsV
  rw [List.getElem?_map, List.getElem?_eq_getElem h]
  simp [h]
theorem orz {H : Hp} {W : List (Option Nat)} {p : Nat} {tb : TE} {σ : L2.St} {Q : VK} (hb : ∀ Q' : VK, Q' (.int 0) H → tb σ H Q') (q : Q (.int (wantN W p)) H) :
    ∃ k, TruV K (optV (W.getD p none)) H k ∧ if k = true then Q (optV (W.getD p none)) H else tb σ H Q := by
  unfold wantN at q
  cases e : W.getD p none with
  | none =>
    rw [e] at q
    exact ⟨false, rfl, iteF (hb _ q)⟩
  | some u =>
    rw [e] at q
    by_cases hu : u = 0
    · subst hu
      exact ⟨false, rfl, iteF (hb _ q)⟩
    · refine ⟨true, ?_, iteT q⟩
      show true = (((u : Nat) : Int) != 0)
      simp [hu]
def sp_own_need (K : PySem.W.Frag) : Sp := fun vs H Q _ => ∃ t xs ts left d W p, vs = [.int ((p : Nat) : Int), .ref d, .ref t, .int ((left : Nat) : Int)] ∧ SqT K H d (wantsV W) ∧ p < W.length ∧ SqL K H t xs ∧ Paired (TakAt K H) xs ts ∧ (∀ tb ∈ ts, (tb.map (·.1)).Nodup) ∧ ts.length ≤ 30 ∧ left ≤ 6 ∧
  ∀ v H', Same H H' → bestV K H' (needOf W p ts left) v → Q v H'
theorem c_own_need (T : Txt K mg) : Cal P w K mg base CX0 2 "own_need" ["place", "wants", "tables", "left"] (sp_own_need K) := by
  refine cal0 T.d_own_need sc_own_need (fun _ _ _ _ _ _ us hl => match us, hl with | [_, _, _, _], _ => rfl) (fun vs H Q E h => ?_) (fun f cdv A outer s H vs Q E hr h => ?_)
  · obtain ⟨t, xs, ts, left, d, W, p, rfl, _⟩ := h
    rfl
  · obtain ⟨t, xs, ts, left, d, W, p, rfl, hW, hp, hS, hT, nds, h30, h6, q⟩ := h
    refine ⟨_, (pss_cons (ps_set (i := 4) sc_own_need.nd rfl (Or.inl rfl) (pcall (c_best_parting T) (hr.mono (by omega)) (pa_cons (pv 2) (pa_cons (pv 3) pa_nil))))
      (pss_one (ps_ret (pe_ifExp (pt_cmpR op_isN (pv 4) pe_non (nomark _)) pe_non (pe_tup (pa_cons (pe_op op_add (pe_ix (ixT K) (pv 4) pe_int (fun _ _ => rfl)) (peOrT K (pe_ix (ixT K) (pv 1) (pv 0) (fun _ _ => rfl)) (pe_one pe_int))) (pa_cons (pe_ix (ixT K) (pv 4) pe_int (fun _ _ => rfl)) pa_nil))))))), ?_⟩
    refine ⟨_, rfl, _, rfl, t, xs, ts, left, rfl, hS, hT, nds, h30, h6, fun v H1 s1 hv => ?_⟩
    cases hb : best ts left with
    | none =>
      rw [hb] at hv
      have hv : v = .non := hv
      subst hv
      refine ⟨_, rfl, rfl, true, rfl, iteT (q _ _ s1 ?_)⟩
      unfold needOf
      rw [hb]
      rfl
    | some e =>
      rw [hb] at hv
      obtain ⟨a, b, rfl, h1, h2⟩ := hv
      refine ⟨_, rfl, rfl, false, rfl, iteF ?_⟩
      refine ⟨_, rfl, a, _, 0, _, rfl, rfl, h1, rfl, ?_⟩
      refine ⟨_, rfl, _, rfl, d, _, _, _, rfl, rfl, same_t s1 hW, atI_nat (wantsV_get hp), orz (fun Q' q' => q') ?_⟩
      refine ⟨_, _, rfl, rfl, _, rfl, a, _, 1, _, rfl, rfl, h1, rfl, (by show 2 ≤ sizeLine; decide), fun r nr => ?_⟩
      refine q _ _ (s1.trans (same_new nr)) ?_
      unfold needOf
      rw [hb]
      exact ⟨r, b, rfl, sqt upd_same, same_t (same_new nr) h2⟩
/-! ### is_called -/
def sp_is_called (K : PySem.W.Frag) : Sp := fun vs H Q _ => ∃ a L d W p, vs = [.ref a, .ref d, .int ((p : Nat) : Int)] ∧ SqT K H a (landV L) ∧ SqT K H d (wantsV W) ∧ WfL L ∧ L.length < 30 ∧ W.length = L.length + 1 ∧ p ≤ L.length ∧
  ∀ H', Same H H' → Q (.bl (wanted L W p)) H'
theorem c_is_called (T : Txt K mg) : Cal P w K mg base CX0 1 "is_called" ["land", "wants", "place"] (sp_is_called K) := by
  refine cal0 T.d_is_called sc_is_called (fun _ _ _ _ _ _ us hl => match us, hl with | [_, _, _], _ => rfl) (fun vs H Q E h => ?_) (fun f cdv A outer s H vs Q E hr h => ?_)
  · obtain ⟨a, L, d, W, p, rfl, _⟩ := h
    rfl
  · obtain ⟨a, L, d, W, p, rfl, hS, hW, wf, h30, hl, hp, q⟩ := h
    refine ⟨_, (pss_cons (ps_setLc (i := 3) (own := [("one", 5)]) (g := gName 5) rfl sc_is_called.nd rfl rfl (sw_true rfl rfl rfl (by decide +kernel)) (piT K (pv 1)) (blkOk_by (own := [("one", 5)]) (N := ["land", "wants", "place", "called", "k", "one"]) (sc := (defScope s_is_called)) (by decide +kernel)) (fun _ _ _ _ _ => pg_name (i := 5) sc_is_called.nd rfl (Or.inl rfl)) (fun _ _ _ _ _ => pts_nil) (fun _ _ _ _ _ => (pe_cmpR op_notN (pv 5) pe_non (nomark _))))
      (pss_cons (ps_for PassesOwn.never rfl (pi_range3 rfl T.b_range (pa_cons (pe_op op_sub (pe_callB (lenS K) rfl T.b_len PySem.boot_len (pa_cons (pv 0) pa_nil)) pe_int) (pa_cons pe_int (pa_cons (pe_un un_neg pe_int) pa_nil)))) (pg_name (i := 4) sc_is_called.nd rfl (Or.inl rfl)) (pss_one (ps_if (pt_val (pe_ix (ixL K) (pv 3) (pv 4) (fun _ _ => rfl))) (pss_one (ps_asg pe_bl (pg_sub (pv 3) (pe_ix (ixT K) (pv 0) (pv 4) (fun _ _ => rfl)) set_list))) pss_nil)))
      (pss_one (ps_ret (pe_ix (ixL K) (pv 3) (pv 2) (fun _ _ => rfl)))))), ?_⟩
    have ew : (wantsV W).length = W.length := wantsV_len W
    have el : (landV L).length = L.length + 1 := landV_len L
    refine ⟨_, rfl, d, rfl, ⟨_, hW⟩, fun D hD => ?_⟩
    refine lc_rel (walk_tup (xs := wantsV W)) hD (by omega) (fun H' s => same_t s hW) (fun i => true) (fun i v _ => v = .bl (W.getD i none).isSome) (fun _ _ _ _ _ _ _ h => h) (fun i x H2 H3 l hi s1 hy y => ?_) (fun ys H2 s1 hy hp' => ?_)
    · obtain ⟨rfl, hx⟩ := y
      obtain ⟨o, ho, rfl⟩ := wantsV_at hx
      refine ⟨Same.refl _, rfl, fun Q' q' => q' H3 (Same.refl _), fun _ H4 s4 Q' q' => ⟨_, rfl, rfl, q' _ H4 (Same.refl _) ?_⟩⟩
      rw [List.getD_eq_getElem?_getD, ho]
      cases o <;> rfl
    · have e4 := paired_vals (g := fun i => V.bl (W.getD i none).isSome) (fun _ _ h => h) hp'
      rw [show (List.range (wantsV W).length).filter (fun _ => true) = List.range (wantsV W).length by simp, ew] at e4
      -- for k in range(len(land) - 1, 0, -1)
      refine ⟨_, rfl, a, _, rfl, .inr (same_t s1 hS), _, _, rfl, rfl, _, rfl, _, _, _, _, rfl, RgC.neg (by omega) (by omega) (by decide) (by decide), ?_⟩
      have en : (((landV L).length : Int) - 1 - 0).toNat = L.length := by omega
      rw [en]
      refine for_it walk_rangeC (fun i σ H4 => ∃ y4 y5, σ = [some (.ref a), some (.ref d), some (.int ((p : Nat) : Int)), some (.ref D), y4, y5] ∧ Same H H4 ∧ H4 D = some (.lst ((List.range (L.length + 1)).map fun q => V.bl (callAt L W (L.length + 1 - i) q))))
        ⟨none, none, rfl, s1, ?_⟩ (fun _ _ _ _ _ => trivial) (fun i x σ H4 H5 hi p y => ?_) (fun σ H4 p => ?_)
      · rw [hy, e4, hl]
        congr 2
        refine List.map_congr_left fun q _ => ?_
        rw [Nat.sub_zero, callAt_top wf]
      · obtain ⟨y4, y5, rfl, s4, h4⟩ := p
        obtain ⟨rfl, rfl⟩ := y
        have ek : (((landV L).length : Int) - 1) + ((i : Nat) : Int) * (-1) = ((L.length - i : Nat) : Int) := by omega
        dsimp only
        rw [ek]
        have hk : L.length - i < L.length + 1 := by omega
        have gk : ((List.range (L.length + 1)).map fun q => V.bl (callAt L W (L.length + 1 - i) q))[L.length - i]? = some (.bl (wanted L W (L.length - i))) := by
          rw [List.getElem?_map, List.getElem?_range hk]
          show some (V.bl (callAt L W (L.length + 1 - i) (L.length - i))) = _
          rw [show L.length + 1 - i = L.length - i + 1 by omega, callAt_own wf (by omega)]
        have hi2 : L.length - i - 1 < L.length := by omega
        have gl : (landV L)[L.length - i]? = some (.int ((L.getD (L.length - i - 1) 0 : Nat) : Int)) := by
          have := landV_at hi2
          rw [show L.length - i - 1 + 1 = L.length - i by omega] at this
          exact this
        have turn : ∀ q, callAt L W (L.length + 1 - (i + 1)) q = (callAt L W (L.length + 1 - i) q || (decide (L.getD (L.length - i - 1) 0 = q) && wanted L W (L.length - i))) := by
          intro q
          have := callAt_turn (W := W) hi2 q
          rw [show L.length - i - 1 + 1 = L.length - i by omega, show L.length - i - 1 + 2 = L.length + 1 - i by omega] at this
          rw [show L.length + 1 - (i + 1) = L.length - i by omega]
          exact this
        refine ⟨_, rfl, _, rfl, D, _, _, _, rfl, rfl, sql h4, atI_nat gk, _, rfl, ite2 (fun c => ?_) (fun c => ?_)⟩
        · have hpar := wf _ hi2
          refine ⟨_, rfl, _, rfl, _, rfl, a, _, _, _, rfl, rfl, same_t s4 hS, atI_nat gl, D, _, _, L.getD (L.length - i - 1) 0, rfl, rfl, h4, ?_, ?_⟩
          · unfold ixN
            rw [List.length_map, List.length_range, if_pos (by omega), if_pos (by omega)]
            simp
          · refine ⟨_, _, rfl, same_mut s4 hD, ?_⟩
            rw [upd_same]
            congr 2
            apply List.ext_getElem?
            intro q
            rw [List.getElem?_set, List.getElem?_map, List.getElem?_map]
            by_cases hq : q < L.length + 1
            · rw [List.getElem?_range hq]
              simp only [Option.map_some, turn, c, Bool.and_true]
              by_cases e : L.getD (L.length - i - 1) 0 = q
              · rw [if_pos e, e]
                simp [hq]
              · rw [if_neg e, decide_eq_false e, Bool.or_false]
            · rw [List.getElem?_eq_none (by simpa using hq)]
              rw [if_neg (by omega)]
              rfl
        · have c' : wanted L W (L.length - i) = false := Bool.eq_false_iff.mpr c
          refine ⟨_, _, rfl, s4, ?_⟩
          rw [h4]
          congr 2
          refine List.map_congr_left fun q _ => ?_
          rw [turn, c']
          simp
      · obtain ⟨y4, y5, rfl, s4, h4⟩ := p
        refine ⟨_, rfl, _, rfl, D, _, _, _, rfl, rfl, sql h4, atI_nat (v := .bl (wanted L W p)) ?_, ?_⟩
        · rw [List.getElem?_map, List.getElem?_range (by omega)]
          show some (V.bl (callAt L W (L.length + 1 - L.length) _)) = _
          rw [show L.length + 1 - L.length = 1 by omega, callAt_low wf hp]
        · exact q H4 s4
end
end Oa
namespace Oat
def rowsUp (c : Case) (p : Nat) (ts : List (List (Nat × Int))) (j : Nat) : Tab := (List.range j).filterMap fun e => (rowOf c p ts e).map fun r => (e, r)
theorem rowsUp_succ (c : Case) (p : Nat) (ts : List (List (Nat × Int))) (j : Nat) : rowsUp c p ts (j + 1) = rowsUp c p ts j ++ (match rowOf c p ts j with | none => [] | some r => [(j, r)]) := by
  unfold rowsUp
  rw [List.range_succ, List.filterMap_append]
  congr 1
  cases h : rowOf c p ts j <;> simp [h]
theorem rowsUp_mem {c : Case} {p : Nat} {ts : List (List (Nat × Int))} {j : Nat} {x : Nat × TRow} (h : x ∈ rowsUp c p ts j) : x.1 < j ∧ rowOf c p ts x.1 = some x.2 := by
  unfold rowsUp at h
  obtain ⟨e, he, h⟩ := List.mem_filterMap.mp h
  cases hr : rowOf c p ts e with
  | none => rw [hr] at h; cases h
  | some r =>
    rw [hr] at h
    have := Option.some.inj h
    subst this
    exact ⟨List.mem_range.mp he, hr⟩
theorem dget_none {α : Type} {F : List (Nat × α)} {k : Nat} (h : ∀ x ∈ F, x.1 ≠ k) : dget F k = none := by
  induction F with
  | nil => rfl
  | cons x F ih =>
    obtain ⟨i, a⟩ := x
    have := h (i, a) List.mem_cons_self
    simp only [dget]
    rw [if_neg this]
    exact ih fun y hy => h y (List.mem_cons_of_mem _ hy)
theorem rowsUp_nd (c : Case) (p : Nat) (ts : List (List (Nat × Int))) : ∀ j, ((rowsUp c p ts j).map (·.1)).Nodup
  | 0 => List.nodup_nil
  | j + 1 => by
    rw [rowsUp_succ]
    cases h : rowOf c p ts j with
    | none => rw [List.append_nil]; exact rowsUp_nd c p ts j
    | some r =>
      rw [List.map_append]
      refine L2.nd_snoc (rowsUp_nd c p ts j) fun m => ?_
      obtain ⟨x, hx, e⟩ := List.mem_map.mp m
      have h1 := (rowsUp_mem hx).1
      have h2 : x.1 = j := e
      omega
theorem rowsUp_len (c : Case) (p : Nat) (ts : List (List (Nat × Int))) (j : Nat) : (rowsUp c p ts j).length ≤ j := by
  unfold rowsUp
  have := List.length_filterMap_le (fun e => (rowOf c p ts e).map fun r => (e, r)) (List.range j)
  simpa using this
theorem rowsUp_put {c : Case} {p : Nat} {ts : List (List (Nat × Int))} {j : Nat} {r : TRow} (h : rowOf c p ts j = some r) : dput (rowsUp c p ts j) j r = rowsUp c p ts (j + 1) := by
  rw [Oa.dput_out (dget_none fun x hx => by have := (rowsUp_mem hx).1; omega), rowsUp_succ, h]
theorem tabOf_up (c : Case) (p : Nat) (ts : List (List (Nat × Int))) : tabOf c p ts = rowsUp c p ts (c.left + 1) := rfl
theorem tab_nd {c : Case} (wf : WfL c.L) {p : Nat} (hp : p ≤ c.L.length) : ((tab c p).map (·.1)).Nodup := by
  rw [tab_eq wf hp, tabOf_up]
  exact rowsUp_nd _ _ _ _
theorem takes_nd {t : Tab} (h : (t.map (·.1)).Nodup) : ((takes t).map (·.1)).Nodup := by
  unfold takes
  rw [List.map_map]
  exact h
theorem kids_len (L : List Nat) (p : Nat) : (kids L p).length ≤ L.length := by
  unfold kids
  rw [List.length_map]
  have := List.length_filter_le (fun i => L.getD i 0 == p) (List.range L.length)
  simpa using this
end Oat
namespace Oa
open PySem PySem.Spec PyProof.Rows L2 Oat
section
variable {P : Program} {w : World} {K : PySem.W.Frag} {mg : Str → Option Value} {base : Heap}
/-- a row of the program's tables -/
def PRowAt (K : PySem.W.Frag) (H : Hp) (v : V) (r : TRow) : Prop := ∃ p q, v = .ref p ∧ SqT K H p [.int r.tk, .int r.out, .int r.back, .ref q] ∧ SqT K H q (r.part.map fun (n : Nat) => V.int (n : Int))
theorem PRowAt.tx {H H' : Hp} {v : V} {r : TRow} (h : PRowAt K H v r) (x : TExt H H') : PRowAt K H' v r := by
  obtain ⟨p, q, e, h1, h2⟩ := h
  exact ⟨p, q, e, x.t h1, x.t h2⟩
theorem PRowAt.head {H : Hp} {v : V} {r : TRow} (h : PRowAt K H v r) : HeadAt K H v r.tk := by
  obtain ⟨p, q, e, h1, _⟩ := h
  exact ⟨p, _, e, h1⟩
def optRow (K : PySem.W.Frag) (H : Hp) (o : Option TRow) (v : V) : Prop := match o with
  | none => v = .non
  | some r => PRowAt K H v r
/-! ### taken_for -/
def sp_taken_for (K : PySem.W.Frag) : Sp := fun vs H Q _ => ∃ a b d c carts p v n e, vs = [.ref a, .ref b, .ref d, .int ((p : Nat) : Int), v, .int ((e : Nat) : Int)] ∧ CaseAt K H a b d c carts ∧ p ≤ c.L.length ∧ e ≤ 6 ∧ RowAt K H v n ∧
  ∀ v H', Same H H' → optRow K H' (takenOf c p n e) v → Q v H'
theorem c_taken_for (T : Txt K mg) : Cal P w K mg base CX0 2 "taken_for" ["land", "works", "wants", "place", "need", "left"] (sp_taken_for K) := by
  refine cal0 T.d_taken_for sc_taken_for (fun _ _ _ _ _ _ us hl => match us, hl with | [_, _, _, _, _, _], _ => rfl) (fun vs H Q E h => ?_) (fun f cdv A outer s H vs Q E hr h => ?_)
  · obtain ⟨a, b, d, c, carts, p, v, n, e, rfl, _⟩ := h
    rfl
  · obtain ⟨a, b, d, c, carts, p, v, n, e, rfl, hC, hp, h6, ⟨x, y, rfl, h1, h2⟩, q⟩ := h
    refine ⟨_, (pss_cons (ps_if (pt_cmpR op_eq (pv 3) pe_int (nomark _)) (pss_one (ps_ret (pe_tup (pa_cons (pe_ix (ixT K) (pv 4) pe_int (fun _ _ => rfl)) (pa_cons pe_int (pa_cons pe_int (pa_cons (pe_ix (ixT K) (pv 4) pe_int (fun _ _ => rfl)) pa_nil))))))) pss_nil)
      (pss_cons (ps_if (PW.pt (pw_and (pt_cmpR op_eq (pv 5) pe_int (nomark _)) (pw_and1 (pt_not (pt_val (pcall (c_is_called T) (hr.mono (by omega)) (pa_cons (pv 0) (pa_cons (pv 2) (pa_cons (pv 3) pa_nil))))))))) (pss_one (ps_ret (pe_tup (pa_cons pe_int (pa_cons pe_int (pa_cons pe_int (pa_cons (pe_ix (ixT K) (pv 4) pe_int (fun _ _ => rfl)) pa_nil))))))) pss_nil)
      (pss_cons (ps_set (i := 6) sc_taken_for.nd rfl (Or.inl rfl) (pcall (c_going_out T) (hr.mono (by omega)) (pa_cons (pe_ix (ixT K) (pv 1) pe_int (fun _ _ => rfl)) (pa_cons (pe_ix (ixT K) (pv 4) pe_int (fun _ _ => rfl)) (pa_cons (pv 5) pa_nil)))))
      (pss_cons (ps_if (pt_cmpR op_isN (pv 6) pe_non (nomark _)) (pss_one (ps_ret pe_non)) pss_nil)
      (pss_cons (ps_set (i := 6) sc_taken_for.nd rfl (Or.inl rfl) (pe_callB (call_max2 rfl) rfl T.b_max (by decide +kernel) (pa_cons (pv 6) (pa_cons pe_int pa_nil))))
      (pss_one (ps_ret (pe_tup (pa_cons (pe_op op_sub (pe_op op_add (pe_ix (ixT K) (pv 4) pe_int (fun _ _ => rfl)) (pe_op op_mul pe_int (pv 6))) (pv 5)) (pa_cons (pv 6) (pa_cons (pe_op op_sub (pv 6) (pv 5)) (pa_cons (pe_ix (ixT K) (pv 4) pe_int (fun _ _ => rfl)) pa_nil)))))))))))), ?_⟩
    refine if0s (b := decide (p = 0)) (fun Q' q' => ⟨_, rfl, rfl, _, rfl, ?_⟩) (fun hb => ?_) (fun hb => ?_)
    · rw [show decide (V.int ((p : Nat) : Int) = V.int 0) = decide (p = 0) from decide_eq_decide.mpr ⟨fun h => by injection h with h; omega, fun h => by rw [h]; rfl⟩]
      exact q'
    · have hp0 := of_decide_eq_true hb
      subst hp0
      refine ⟨_, rfl, x, _, 0, _, rfl, rfl, h1, rfl, _, rfl, x, _, 1, _, rfl, rfl, h1, rfl, (by show 4 ≤ sizeLine; decide), fun r nr => q _ _ (same_new nr) ?_⟩
      exact ⟨r, y, rfl, sqt upd_same, same_t (same_new nr) h2⟩
    · have hp0 := of_decide_eq_false hb
      have e1 : decide (V.int ((e : Nat) : Int) = V.int 0) = decide (e = 0) := decide_eq_decide.mpr ⟨fun h => by injection h with h; omega, fun h => by rw [h]; rfl⟩
      -- the rest, behind the second test
      have rest : ∀ (D : Ends) (H1 : Hp), Same H H1 → D.rt = Q → ¬ (e = 0 ∧ wanted c.L c.W p = false) →
          (tSeq (tAsg (tCall sp_going_out [] E0 (tCons (tOp (rIxT K) (tVar 1) (tC (.int 1))) (tCons (tOp (rIxT K) (tVar 4) (tC (.int 0))) (tCons (tVar 5) tNil)))) (gName 6))
            (tSeq (tIfS (tTest (tOp (fun x y H Q => y = .non ∧ Q (.bl (decide (x = .non))) H) (tVar 6) (tC .non))) (tRet (tC .non)) tNext)
            (tSeq (tAsg (tCB (fun xs H Q => ∃ i j, xs = [V.int i, V.int j] ∧ Q (V.int (if j > i then j else i)) H) (tCons (tVar 6) (tCons (tC (.int 1)) tNil))) (gName 6))
            (tRet (tTup (tCons (tOp (rI0 fun i j => .int (i - j)) (tOp (rI0 fun i j => .int (i + j)) (tOp (rIxT K) (tVar 4) (tC (.int 0))) (tOp (rI CMul fun i j => .int (i * j)) (tC (.int 2)) (tVar 6))) (tVar 5))
              (tCons (tVar 6) (tCons (tOp (rI0 fun i j => .int (i - j)) (tVar 6) (tVar 5)) (tCons (tOp (rIxT K) (tVar 4) (tC (.int 1))) tNil)))))))))
          D [some (.ref a), some (.ref b), some (.ref d), some (.int ((p : Nat) : Int)), some (.ref x), some (.int ((e : Nat) : Int)), none] H1 := by
        intro D H1 s1 hD nz
        have et : takenOf c p n e = (outF c.room n.1 e).map fun o => ⟨n.1 + 2 * o - e, o, o - e, n.2⟩ := by
          unfold takenOf
          rw [if_neg hp0, if_neg nz]
        have hg := goes_out (room := c.room) (e := e) (need := n.1) hC.r2
        refine ⟨_, rfl, b, _, 1, _, rfl, rfl, same_t s1 hC.k, rfl, _, rfl, x, _, 0, _, rfl, rfl, same_t s1 h1, rfl, _, rfl, c.room, e, n.1, rfl, hC.r2, hC.r20, h6, ?_⟩
        cases hgo : goes c.room n.1 e with
        | none =>
          rw [hgo] at hg
          have hg : none = outF c.room n.1 e := hg
          rw [← hg] at et
          refine ⟨_, rfl, rfl, true, rfl, iteT ?_⟩
          show D.rt .non H1
          rw [hD]
          refine q _ _ s1 ?_
          rw [et]
          rfl
        | some o =>
          rw [hgo] at hg
          have hg : some (max o 1) = outF c.room n.1 e := hg
          rw [← hg] at et
          refine ⟨_, rfl, rfl, false, rfl, iteF ?_⟩
          have em : (if (1 : Int) > o then (1 : Int) else o) = max o 1 := by split <;> omega
          refine ⟨_, rfl, _, _, rfl, ?_⟩
          dsimp only [gName]
          rw [em]
          refine ⟨_, rfl, x, _, 0, _, rfl, rfl, same_t s1 h1, rfl, _, rfl, _, _, rfl, rfl, .inl ⟨by decide, by decide⟩, _, _, rfl, rfl, _, rfl, _, _, rfl, rfl, ?_⟩
          refine ⟨_, rfl, _, rfl, _, rfl, _, _, rfl, rfl, _, rfl, x, _, 1, _, rfl, rfl, same_t s1 h1, rfl, (by show 4 ≤ sizeLine; decide), fun r nr => ?_⟩
          show D.rt (.ref r) _
          rw [hD]
          refine q _ _ (s1.trans (same_new nr)) ?_
          rw [et]
          exact ⟨r, y, rfl, sqt upd_same, same_t (s1.trans (same_new nr)) h2⟩
      refine ⟨_, rfl, rfl, _, rfl, ?_⟩
      rw [e1]
      refine ite2 (fun he => ?_) (fun he => ?_)
      · have he0 := of_decide_eq_true he
        subst he0
        refine ⟨_, rfl, _, rfl, _, rfl, a, c.L, d, c.W, p, rfl, hC.l, hC.w, hC.wf, hC.n, hC.wl, hp, fun H1 s1 => ⟨_, rfl, ?_⟩⟩
        cases hw : wanted c.L c.W p with
        | true =>
          refine iteF ?_
          exact rest _ H1 s1 rfl fun z => by rw [hw] at z; cases z.2
        | false =>
          refine iteT ?_
          refine ⟨_, rfl, x, _, 1, _, rfl, rfl, same_t s1 h1, rfl, (by show 4 ≤ sizeLine; decide), fun r nr => q _ _ (s1.trans (same_new nr)) ?_⟩
          have et : takenOf c p n 0 = some ⟨0, 0, 0, n.2⟩ := by
            unfold takenOf
            rw [if_neg hp0, if_pos ⟨rfl, hw⟩]
          rw [et]
          exact ⟨r, y, rfl, sqt upd_same, same_t (s1.trans (same_new nr)) h2⟩
      · have he0 := of_decide_eq_false (Bool.eq_false_iff.mpr he)
        refine iteF ?_
        exact rest _ H (Same.refl _) rfl fun z => he0 z.1
end
end Oa
namespace Oa
open PySem PySem.Spec PyProof.Rows L2 Oat
section
variable {P : Program} {w : World} {K : PySem.W.Frag} {mg : Str → Option Value} {base : Heap}
/-- the tables of all places: a list of dicts -/
structure TabsAt (K : PySem.W.Frag) (H : Hp) (D : Addr) (ds : List Addr) (F : Nat → Tab) : Prop where
  l : H D = some (.lst (ds.map V.ref))
  nd : ds.Nodup
  at_ : ∀ (k : Nat) (d : Addr), ds[k]? = some d → ∃ kvs, H d = some (.dK kvs) ∧ PairD (PRowAt K H) kvs (F k)
theorem TabsAt.same {H H' : Hp} {D : Addr} {ds : List Addr} {F : Nat → Tab} (h : TabsAt K H D ds F) (s : Same H H') : TabsAt K H' D ds F :=
  ⟨s _ _ h.l, h.nd, fun k d e => by
    obtain ⟨kvs, h1, h2⟩ := h.at_ k d e
    exact ⟨kvs, s _ _ h1, pd_imp h2 fun _ _ q => q.tx (same_tx s)⟩⟩
theorem nd_ne {ds : List Addr} (nd : ds.Nodup) {i j : Nat} {a b : Addr} (ha : ds[i]? = some a) (hb : ds[j]? = some b) (h : i ≠ j) : a ≠ b := by
  rintro rfl
  exact h (nd_ix nd ha hb)
theorem TabsAt.put {H : Hp} {D : Addr} {ds : List Addr} {F G : Nat → Tab} {p : Nat} {d : Addr} {kvs : List (Key × V)} (h : TabsAt K H D ds F) (hd : ds[p]? = some d) (hp : PairD (PRowAt K H) kvs (G p)) (hG : ∀ k, k ≠ p → G k = F k) : TabsAt K (upd H d (.dK kvs)) D ds G := by
  obtain ⟨k0, e0, _⟩ := h.at_ p d hd
  have x : TExt H (upd H d (.dK kvs)) := tx_upd (by rw [e0]; trivial)
  refine ⟨?_, h.nd, fun k d' e => ?_⟩
  · rw [upd_ne (ne_of h.l e0 (fun z => nomatch z))]
    exact h.l
  · by_cases hk : k = p
    · subst hk
      have : d' = d := Option.some.inj (e.symm.trans hd)
      subst this
      exact ⟨kvs, upd_same, pd_imp hp fun _ _ q => q.tx x⟩
    · obtain ⟨k1, e1, p1⟩ := h.at_ k d' e
      refine ⟨k1, ?_, ?_⟩
      · rw [upd_ne (nd_ne h.nd e hd hk)]
        exact e1
      · rw [hG k hk]
        exact pd_imp p1 fun _ _ q => q.tx x
theorem pd_heads {H : Hp} : ∀ {kvs : List (Key × V)} {t : Tab}, PairD (PRowAt K H) kvs t → PairD (HeadAt K H) kvs (takes t)
  | _, _, .nil => .nil
  | _, _, .cons a b => .cons ⟨a.1, a.2.head⟩ (pd_heads b)
def sp_tables_of (K : PySem.W.Frag) : Sp := fun vs H Q _ => ∃ a b d c carts, vs = [.ref a, .ref b, .ref d, .int ((c.left : Nat) : Int)] ∧ CaseAt K H a b d c carts ∧
  ∀ D ds H', H D = none → Same H H' → ds.length = c.L.length + 1 → (∀ x ∈ ds, H x = none) → TabsAt K H' D ds (tab c) → Q (.ref D) H'
theorem c_tables_of (T : Txt K mg) : Cal P w K mg base CX0 3 "tables_of" ["land", "works", "wants", "left"] (sp_tables_of K) := by
  refine cal0 T.d_tables_of sc_tables_of (fun _ _ _ _ _ _ us hl => match us, hl with | [_, _, _, _], _ => rfl) (fun vs H Q E h => ?_) (fun f cdv A outer s H vs Q E hr h => ?_)
  · obtain ⟨a, b, d, c, carts, rfl, _⟩ := h
    rfl
  · obtain ⟨a, b, d, c, carts, rfl, hC, q⟩ := h
    refine ⟨_, (pss_cons (ps_set (i := 5) sc_tables_of.nd rfl (Or.inr rfl) (pe_lc (own := [("place", 4)]) (g := gName 4) rfl sc_tables_of.nd (piT K (pv 0)) (blkOk_by (own := [("place", 4)]) (N := ["land", "works", "wants", "left", "place", "found", "tables", "some", "need", "row", "k"]) (sc := (defScope s_tables_of)) (by decide +kernel)) (fun _ _ _ _ _ => pg_name (i := 4) sc_tables_of.nd rfl (Or.inl rfl)) (fun _ _ _ _ _ => pts_nil) (fun _ _ _ _ _ => pe_dnewK)))
      (pss_cons (ps_for PassesOwn.never rfl (pi_range3 rfl T.b_range (pa_cons (pe_op op_sub (pe_callB (lenS K) rfl T.b_len PySem.boot_len (pa_cons (pv 0) pa_nil)) pe_int) (pa_cons (pe_un un_neg pe_int) (pa_cons (pe_un un_neg pe_int) pa_nil)))) (pg_name (i := 4) sc_tables_of.nd rfl (Or.inl rfl)) (pss_cons (ps_setLc (i := 6) (own := [("k", 10)]) (g := gName 10) rfl sc_tables_of.nd rfl rfl (sw_true rfl rfl rfl (by decide +kernel)) (piL K (pcall (c_beyond T) (hr.mono (by omega)) (pa_cons (pv 0) (pa_cons (pv 4) pa_nil)))) (blkOk_by (own := [("k", 10)]) (N := ["land", "works", "wants", "left", "place", "found", "tables", "some", "need", "row", "k"]) (sc := (defScope s_tables_of)) (by decide +kernel)) (fun _ _ _ _ _ => pg_name (i := 10) sc_tables_of.nd rfl (Or.inl rfl)) (fun _ _ _ _ _ => pts_nil) (fun _ _ _ _ _ => (pe_ix (ixL K) (pv 5) (pv 10) (fun _ _ => rfl))))
      (pss_one (ps_for PassesOwn.never rfl (pi_range1 rfl T.b_range (pa_cons (pe_op op_add (pv 3) pe_int) pa_nil)) (pg_name (i := 7) sc_tables_of.nd rfl (Or.inl rfl)) (pss_cons (ps_set (i := 8) sc_tables_of.nd rfl (Or.inl rfl) (pcall (c_own_need T) (hr.mono (by omega)) (pa_cons (pv 4) (pa_cons (pv 2) (pa_cons (pv 6) (pa_cons (pv 7) pa_nil))))))
      (pss_one (ps_if (pt_cmpR op_notN (pv 8) pe_non (nomark _)) (pss_cons (ps_set (i := 9) sc_tables_of.nd rfl (Or.inl rfl) (pcall (c_taken_for T) (hr.mono (by omega)) (pa_cons (pv 0) (pa_cons (pv 1) (pa_cons (pv 2) (pa_cons (pv 4) (pa_cons (pv 8) (pa_cons (pv 7) pa_nil))))))))
      (pss_one (ps_if (pt_cmpR op_notN (pv 9) pe_non (nomark _)) (pss_one (ps_dput (hu_of hr) (pe_ix (ixL K) (pv 5) (pv 4) (fun _ _ => rfl)) (pv 7) (pv 9) rfl)) pss_nil))) pss_nil)))))))
      (pss_one (ps_ret (pv 5))))), ?_⟩
    have el : (landV c.L).length = c.L.length + 1 := landV_len c.L
    have hn := hC.n
    have h6 : c.left ≤ 6 := Nat.le_trans hC.lf hC.c6
    -- found = [{} for place in land]
    refine ⟨_, rfl, a, rfl, ⟨_, hC.l⟩, fun D hD => ?_⟩
    refine lc_it (walk_tup (xs := landV c.L)) (g := gName 4) (fun i H1 => Same H H1 ∧ ∃ ds, ds.length = i ∧ (∀ x ∈ ds, H x = none) ∧ TabsAt K H1 D ds (fun _ => [])) ⟨same_new hD, [], rfl, (fun _ h => absurd h List.not_mem_nil), ⟨upd_same, List.nodup_nil, fun k d e => by simp at e⟩⟩
      (fun i H1 _ p => same_t p.1 hC.l) (fun i x H1 H2 hi p y => ?_) (fun H1 p => ?_)
    · obtain ⟨rfl, hx⟩ := y
      obtain ⟨s1, ds, hl, hf, tb⟩ := p
      refine ⟨rfl, fun e ne => ⟨ds.map V.ref, ?_, ?_, ?_⟩⟩
      · rw [upd_ne (ne_of_none tb.l ne)]
        exact tb.l
      · rw [List.length_map, hl]
        exact Nat.lt_of_le_of_lt (show i ≤ 1000 by omega) (small1000 (Nat.le_refl _))
      · have neD : e ≠ D := (ne_of_none tb.l ne).symm
        have heH : H e = none := s1.free ne
        have tb1 := tb.same (same_new (o := .dK []) ne)
        refine ⟨same_mut (same_mut s1 heH) hD, ds ++ [e], by simp [hl], fun x hx => ?_, ⟨?_, ?_, fun k d' ed => ?_⟩⟩
        · rcases List.mem_append.mp hx with h | h
          · exact hf x h
          · rw [List.mem_singleton.mp h]
            exact heH
        · rw [upd_same, List.map_append]
          rfl
        · refine nd_snoc tb.nd fun m => ?_
          obtain ⟨k, hk⟩ := List.getElem?_of_mem m
          obtain ⟨kv, z, _⟩ := tb.at_ k e hk
          rw [ne] at z
          cases z
        · have ed' : d' ≠ D := by
            rintro rfl
            rcases List.mem_append.mp (List.mem_of_getElem? ed) with h | h
            · obtain ⟨k, hk⟩ := List.getElem?_of_mem h
              obtain ⟨kv, z, _⟩ := tb.at_ k _ hk
              rw [tb.l] at z
              cases z
            · exact neD (List.mem_singleton.mp h).symm
          rw [upd_ne ed']
          by_cases hk : k < ds.length
          · rw [List.getElem?_append_left hk] at ed
            obtain ⟨kv, z, pz⟩ := tb1.at_ k d' ed
            refine ⟨kv, z, ?_⟩
            cases pz
            exact .nil
          · rw [List.getElem?_append_right (by omega)] at ed
            have : d' = e := by
              have := List.mem_of_getElem? ed
              exact List.mem_singleton.mp this
            subst this
            exact ⟨[], upd_same, .nil⟩
    · obtain ⟨s1, ds, hl, hf, tb⟩ := p
      rw [el] at hl
      -- for place in range(len(land) - 1, -1, -1)
      refine ⟨_, rfl, a, _, rfl, .inr (same_t s1 hC.l), _, _, rfl, rfl, _, rfl, _, rfl, _, _, _, _, rfl, RgC.neg (by omega) (by omega) (by decide) (by decide), ?_⟩
      have en : (((landV c.L).length : Int) - 1 - -1).toNat = c.L.length + 1 := by omega
      rw [en]
      refine for_it walk_rangeC (fun i σ H2 => ∃ y4 y6 y7 y8 y9 y10, σ = [some (.ref a), some (.ref b), some (.ref d), some (.int ((c.left : Nat) : Int)), y4, some (.ref D), y6, y7, y8, y9, y10] ∧ Same H H2 ∧ TabsAt K H2 D ds (fun k => if c.L.length + 1 ≤ k + i then tab c k else []))
        ⟨none, none, none, none, none, none, rfl, s1, ?_⟩ (fun _ _ _ _ _ => trivial) (fun i x σ H2 H3 hi p y => ?_) (fun σ H2 p => ?_)
      · refine ⟨tb.l, tb.nd, fun k d' e => ?_⟩
        have hk : k < ds.length := (List.getElem?_eq_some_iff.mp e).1
        obtain ⟨kv, z, pz⟩ := tb.at_ k d' e
        refine ⟨kv, z, ?_⟩
        rw [if_neg (by omega)]
        exact pz
      · obtain ⟨y4, y6, y7, y8, y9, y10, rfl, s2, t2⟩ := p
        obtain ⟨rfl, rfl⟩ := y
        have ek : (((landV c.L).length : Int) - 1) + ((i : Nat) : Int) * (-1) = ((c.L.length - i : Nat) : Int) := by omega
        dsimp only
        rw [ek]
        have hp : c.L.length - i ≤ c.L.length := Nat.sub_le _ _
        have hpi : c.L.length - i + i = c.L.length := by omega
        generalize hpe : c.L.length - i = p at hp hpi
        -- tables = [found[k] for k in beyond(land, place)]
        refine ⟨_, rfl, _, rfl, a, c.L, p, rfl, same_t s2 hC.l, hC.n, fun kl H4 nkl s4 hkl => ?_⟩
        refine ⟨kl, rfl, ⟨_, sql hkl⟩, fun tl htl => ?_⟩
        have t4 := t2.same s4
        refine lc_rel (walk_list (xs := (kids c.L p).map fun (k : Nat) => V.int (k : Int))) htl (by rw [List.length_map]; have := kids_len c.L p; omega) (fun H' s => sql (s _ _ hkl)) (fun _ => true)
          (fun m v _ => ∃ k dd, (kids c.L p)[m]? = some k ∧ ds[k]? = some dd ∧ v = .ref dd) (fun _ _ _ _ _ _ _ h => h) (fun m x H5 H6 l hm s5 hy y => ?_) (fun ys H5 s5 hy hp' => ?_)
        · obtain ⟨rfl, hx⟩ := y
          rw [List.getElem?_map] at hx
          obtain ⟨k, hk, rfl⟩ := Option.map_eq_some_iff.mp hx
          have hkk := kids_gt hC.wf (List.mem_of_getElem? hk)
          have hdk : k < ds.length := by omega
          refine ⟨Same.refl _, rfl, fun Q' q' => q' H6 (Same.refl _), fun _ H7 s7 Q' q' => ?_⟩
          refine ⟨_, rfl, _, rfl, D, _, _, _, rfl, rfl, sql ((s5.trans s7) _ _ t4.l), atI_nat (v := .ref ds[k]) ?_, q' _ H7 (Same.refl _) ⟨k, ds[k], hk, List.getElem?_eq_getElem hdk, rfl⟩⟩
          rw [List.getElem?_map, List.getElem?_eq_getElem hdk]
          rfl
        · have t5 := t4.same s5
          have hpair : ∀ (H6 : Hp), TabsAt K H6 D ds (fun k => if c.L.length + 1 ≤ k + (i + 1) then (if k = p then rowsUp c p ((kids c.L p).map fun k => takes (tab c k)) 0 else tab c k) else []) → True := fun _ _ => trivial
          have hys : Paired (fun v k => ∃ dd, ds[k]? = some dd ∧ v = .ref dd) ys (kids c.L p) := by
            rw [show (List.range ((kids c.L p).map fun (k : Nat) => V.int (k : Int)).length).filter (fun _ => true) = List.range (kids c.L p).length by simp] at hp'
            have : ∀ (F G : List Nat) (ys : List V), Paired (fun m v => ∃ k dd, (F ++ G)[m]? = some k ∧ ds[k]? = some dd ∧ v = .ref dd) (List.range' F.length G.length) ys → Paired (fun v k => ∃ dd, ds[k]? = some dd ∧ v = .ref dd) ys G := by
              intro F G
              induction G generalizing F with
              | nil => intro ys h; cases h; exact .nil
              | cons g G ih =>
                intro ys h
                rw [List.length_cons, List.range'_succ] at h
                cases h with
                | cons a b =>
                  obtain ⟨k, dd, he, hd, hv⟩ := a
                  have e1 : k = g := by
                    rw [List.getElem?_append_right (Nat.le_refl _), Nat.sub_self] at he
                    exact (Option.some.inj he).symm
                  subst e1
                  refine .cons ⟨dd, hd, hv⟩ (ih (F ++ [k]) _ ?_)
                  rw [List.append_assoc, List.length_append]
                  exact b
            exact this [] (kids c.L p) ys (by rw [List.nil_append, List.length_nil, ← List.range_eq_range']; exact hp')
          have hdp : p < ds.length := by omega
          have hdpe : ds[p]? = some ds[p] := List.getElem?_eq_getElem hdp
          have key : ∀ (H6 : Hp) (F : Nat → Tab), TabsAt K H6 D ds F → (∀ k, p < k → k ≤ c.L.length → F k = tab c k) → Paired (TakAt K H6) ys ((kids c.L p).map fun k => takes (tab c k)) := by
            intro H6 F t6 hF
            have : ∀ {ys : List V} {ks : List Nat}, (∀ k ∈ ks, p < k ∧ k ≤ c.L.length) → Paired (fun v k => ∃ dd, ds[k]? = some dd ∧ v = .ref dd) ys ks → Paired (TakAt K H6) ys (ks.map fun k => takes (tab c k)) := by
              intro ys ks hks h
              induction h with
              | nil => exact .nil
              | @cons v k vs ks a b ih =>
                obtain ⟨dd, hd, rfl⟩ := a
                have hk := hks k List.mem_cons_self
                obtain ⟨kv, z, pz⟩ := t6.at_ k dd hd
                rw [hF k hk.1 hk.2] at pz
                exact .cons ⟨dd, kv, rfl, z, pd_heads pz⟩ (ih fun k hk => hks k (List.mem_cons_of_mem _ hk))
            exact this (fun k hk => kids_gt hC.wf hk) hys
          -- for some in range(left + 1)
          refine ⟨_, rfl, _, _, rfl, rfl, _, rfl, by omega, by omega, ?_⟩
          have en2 : (((c.left : Nat) : Int) + 1).toNat = c.left + 1 := by omega
          rw [en2]
          refine for_it walk_range (fun j σ H6 => ∃ y7 y8 y9 y10, σ = [some (.ref a), some (.ref b), some (.ref d), some (.int ((c.left : Nat) : Int)), some (.int ((p : Nat) : Int)), some (.ref D), some (.ref tl), y7, y8, y9, y10] ∧ Same H H6 ∧ H6 tl = some (.lst ys) ∧
              TabsAt K H6 D ds (fun k => if k = p then rowsUp c p ((kids c.L p).map fun k => takes (tab c k)) j else if c.L.length + 1 ≤ k + i then tab c k else []))
            ⟨_, _, _, _, rfl, s2.trans (s4.trans s5), hy, ?_⟩ (fun _ _ _ _ _ => trivial) (fun j x σ H6 H7 hj p' y => ?_) (fun σ H6 p' => ?_)
          · refine ⟨t5.l, t5.nd, fun k d' e => ?_⟩
            obtain ⟨kv, z, pz⟩ := t5.at_ k d' e
            refine ⟨kv, z, ?_⟩
            by_cases hk : k = p
            · subst hk
              rw [if_pos rfl]
              rw [if_neg (by omega)] at pz
              exact pz
            · rw [if_neg hk]
              exact pz
          · obtain ⟨y7, y8, y9, y10, rfl, s6, h6l, t6⟩ := p'
            obtain ⟨rfl, rfl⟩ := y
            dsimp only
            rw [Int.zero_add]
            have hpr := key H7 _ t6 (fun k h1 h2 => by rw [if_neg (by omega), if_pos (by omega)])
            -- need = own_need(place, wants, tables, some)
            refine ⟨_, rfl, _, rfl, _, rfl, _, rfl, tl, ys, _, j, d, c.W, p, rfl, same_t s6 hC.w, by have := hC.wl; omega, sql h6l, hpr, fun tb' htb => ?_, by rw [List.length_map]; have := kids_len c.L p; omega, by omega, fun v H8 s8 hv => ?_⟩
            · obtain ⟨k, hk, rfl⟩ := List.mem_map.mp htb
              exact takes_nd (tab_nd hC.wf (kids_gt hC.wf hk).2)
            · have t8 := t6.same s8
              have s68 := s6.trans s8
              cases hno : needOf c.W p ((kids c.L p).map fun k => takes (tab c k)) j with
              | none =>
                rw [hno] at hv
                have hv : v = .non := hv
                subst hv
                refine ⟨_, rfl, rfl, false, rfl, iteF ?_⟩
                have hro : Oat.rowOf c p ((kids c.L p).map fun k => takes (tab c k)) j = none := by
                  unfold Oat.rowOf
                  rw [hno]
                  rfl
                refine ⟨_, _, _, _, rfl, s68, s8 _ _ h6l, ?_⟩
                refine ⟨t8.l, t8.nd, fun k d' e => ?_⟩
                obtain ⟨kv, z, pz⟩ := t8.at_ k d' e
                refine ⟨kv, z, ?_⟩
                rw [rowsUp_succ, hro, List.append_nil]
                exact pz
              | some n =>
                rw [hno] at hv
                obtain ⟨na, nb, rfl, hn1, hn2⟩ := hv
                refine ⟨_, rfl, rfl, true, rfl, iteT ?_⟩
                refine ⟨_, rfl, _, rfl, _, rfl, _, rfl, _, rfl, _, rfl, a, b, d, c, carts, p, .ref na, n, j, rfl, hC.same s68, hp, by omega, ⟨na, nb, rfl, hn1, hn2⟩, fun v H9 s9 hv => ?_⟩
                have t9 := t8.same s9
                have s69 := s68.trans s9
                have hl9 := s9 _ _ (s8 _ _ h6l)
                have hro : Oat.rowOf c p ((kids c.L p).map fun k => takes (tab c k)) j = takenOf c p n j := by
                  unfold Oat.rowOf
                  rw [hno]
                  rfl
                cases hta : takenOf c p n j with
                | none =>
                  rw [hta] at hv hro
                  have hv : v = .non := hv
                  subst hv
                  refine ⟨_, rfl, rfl, false, rfl, iteF ?_⟩
                  refine ⟨_, _, _, _, rfl, s69, hl9, ?_⟩
                  refine ⟨t9.l, t9.nd, fun k d' e => ?_⟩
                  obtain ⟨kv, z, pz⟩ := t9.at_ k d' e
                  refine ⟨kv, z, ?_⟩
                  rw [rowsUp_succ, hro, List.append_nil]
                  exact pz
                | some r =>
                  rw [hta] at hv hro
                  obtain ⟨ra, rb, rfl, hr1, hr2⟩ := hv
                  refine ⟨_, rfl, rfl, true, rfl, iteT ?_⟩
                  obtain ⟨kv, z, pz⟩ := t9.at_ p ds[p] hdpe
                  rw [if_pos rfl] at pz
                  have hkv : kv.length ≤ 1000 := by
                    rw [pd_len pz]
                    have := rowsUp_len c p ((kids c.L p).map fun k => takes (tab c k)) j
                    omega
                  refine ⟨_, rfl, _, rfl, _, rfl, D, _, _, _, rfl, rfl, sql t9.l, atI_nat (v := .ref ds[p]) ?_, _, rfl, ds[p], _, rfl, DPut.k (k := Sum.inl ((j : Nat) : Int)) z (Nat.lt_of_le_of_lt hkv (small1000 (Nat.le_refl _))), ?_⟩
                  · rw [List.getElem?_map, hdpe]
                    rfl
                  · have ntl : tl ≠ ds[p] := ne_of hl9 z (fun q => nomatch q)
                    have nH : H ds[p] = none := hf _ (List.getElem_mem hdp)
                    refine ⟨_, _, _, _, rfl, same_mut s69 nH, by rw [upd_ne ntl]; exact hl9, ?_⟩
                    refine t9.put (G := fun k => if k = p then rowsUp c p ((kids c.L p).map fun k => takes (tab c k)) (j + 1) else if c.L.length + 1 ≤ k + i then tab c k else []) hdpe ?_ (fun k hk => by simp only [if_neg hk])
                    rw [if_pos rfl, ← rowsUp_put hro]
                    exact pd_put (rowsUp_nd _ _ _ _) pz ⟨ra, rb, rfl, hr1, hr2⟩
          · obtain ⟨y7, y8, y9, y10, rfl, s6, h6l, t6⟩ := p'
            refine ⟨_, _, _, _, _, _, rfl, s6, t6.l, t6.nd, fun k d' e => ?_⟩
            obtain ⟨kv, z, pz⟩ := t6.at_ k d' e
            refine ⟨kv, z, ?_⟩
            by_cases hk : k = p
            · subst hk
              rw [if_pos rfl] at pz
              rw [if_pos (by omega), tab_eq hC.wf hp, tabOf_up]
              exact pz
            · rw [if_neg hk] at pz
              have hkl : k < ds.length := (List.getElem?_eq_some_iff.mp e).1
              by_cases h2 : c.L.length + 1 ≤ k + i
              · rw [if_pos h2] at pz
                rw [if_pos (by omega)]
                exact pz
              · rw [if_neg h2] at pz
                rw [if_neg (by omega)]
                exact pz
      · obtain ⟨y4, y6, y7, y8, y9, y10, rfl, s2, t2⟩ := p
        refine ⟨_, rfl, q D ds H2 hD s2 hl hf ⟨t2.l, t2.nd, fun k d' e => ?_⟩⟩
        obtain ⟨kv, z, pz⟩ := t2.at_ k d' e
        refine ⟨kv, z, ?_⟩
        rw [if_pos (by omega)] at pz
        exact pz
end
end Oa
namespace Oat
/-! ### the least pair -/
theorem plt_iff {a b : Int × Nat} : plt a b = true ↔ a.1 < b.1 ∨ (a.1 = b.1 ∧ a.2 < b.2) := by
  unfold plt
  split
  · rename_i h
    rw [decide_eq_true_eq]
    omega
  · rename_i h
    rw [decide_eq_true_eq]
    omega
theorem plt_no {a b : Int × Nat} : plt a b = false ↔ ¬ (a.1 < b.1 ∨ (a.1 = b.1 ∧ a.2 < b.2)) := by
  rw [← plt_iff]
  cases plt a b <;> simp
theorem pmin_foldl : ∀ (r : List (Nat × Int)) (m : Int × Nat), (r.foldl (fun m y => pmin m (y.2, y.1)) m = m ∨ ∃ x ∈ r, r.foldl (fun m y => pmin m (y.2, y.1)) m = (x.2, x.1)) ∧ plt m (r.foldl (fun m y => pmin m (y.2, y.1)) m) = false ∧ ∀ x ∈ r, plt (x.2, x.1) (r.foldl (fun m y => pmin m (y.2, y.1)) m) = false
  | [], m => ⟨.inl rfl, plt_no.mpr (by show ¬ (m.1 < m.1 ∨ (m.1 = m.1 ∧ m.2 < m.2)); omega), fun _ h => by cases h⟩
  | y :: r, m => by
    obtain ⟨h1, h2, h3⟩ := pmin_foldl r (pmin m (y.2, y.1))
    rw [List.foldl_cons]
    generalize r.foldl (fun m y => pmin m (y.2, y.1)) (pmin m (y.2, y.1)) = z at h1 h2 h3
    by_cases c : plt (y.2, y.1) m = true
    · have e : pmin m (y.2, y.1) = (y.2, y.1) := if_pos c
      rw [e] at h1 h2
      have c' := plt_iff.mp c
      have h2' := plt_no.mp h2
      refine ⟨.inr ?_, plt_no.mpr (by dsimp only at c' h2' ⊢; omega), fun x hx => ?_⟩
      · rcases h1 with h1 | ⟨x, hx, h1⟩
        · exact ⟨y, List.mem_cons_self, h1⟩
        · exact ⟨x, List.mem_cons_of_mem _ hx, h1⟩
      · rcases List.mem_cons.mp hx with h | h
        · rw [h]; exact h2
        · exact h3 x h
    · have e : pmin m (y.2, y.1) = m := if_neg c
      rw [e] at h1 h2
      have c' := plt_no.mp (Bool.eq_false_iff.mpr c)
      have h2' := plt_no.mp h2
      refine ⟨?_, h2, fun x hx => ?_⟩
      · rcases h1 with h1 | ⟨x, hx, h1⟩
        · exact .inl h1
        · exact .inr ⟨x, List.mem_cons_of_mem _ hx, h1⟩
      · rcases List.mem_cons.mp hx with h | h
        · rw [h]
          exact plt_no.mpr (by dsimp only at c' h2' ⊢; omega)
        · exact h3 x h
theorem bestL_some {tb : List (Nat × Int)} (h : tb ≠ []) : ∃ m : Int × Nat, bestL tb = some m ∧ (m.2, m.1) ∈ tb ∧ ∀ x ∈ tb, plt (x.2, x.1) m = false := by
  cases tb with
  | nil => exact absurd rfl h
  | cons y r =>
    obtain ⟨h1, h2, h3⟩ := pmin_foldl r (y.2, y.1)
    refine ⟨_, rfl, ?_, fun x hx => ?_⟩
    · rcases h1 with h1 | ⟨x, hx, h1⟩
      · rw [h1]; exact List.mem_cons_self
      · rw [h1]; exact List.mem_cons_of_mem _ hx
    · rcases List.mem_cons.mp hx with h | h
      · rw [h]; exact h2
      · exact h3 x h
theorem bestL_none {tb : List (Nat × Int)} : bestL tb = none ↔ tb = [] := by
  cases tb <;> simp [bestL]
theorem bestL_uniq {tb : List (Nat × Int)} {m : Int × Nat} (h : (m.2, m.1) ∈ tb) (hm : ∀ x ∈ tb, plt (x.2, x.1) m = false) : bestL tb = some m := by
  obtain ⟨n, hn, h1, h2⟩ := bestL_some (List.ne_nil_of_mem h)
  have a := plt_no.mp (hm _ h1)
  have b := plt_no.mp (h2 _ h)
  rw [hn]
  congr 1
  dsimp only at a b
  exact Prod.ext (by omega) (by omega)
end Oat
namespace Oa
open PySem PySem.Spec PyProof.Rows L2 Oat
section
variable {P : Program} {w : World} {K : PySem.W.Frag} {mg : Str → Option Value} {base : Heap}
/-! ### best_left -/
def pairV (K : PySem.W.Frag) (H : Hp) (o : Option (Int × Nat)) (v : V) : Prop := match o with
  | none => v = .non
  | some m => ∃ p, v = .ref p ∧ SqT K H p [.int m.1, .int ((m.2 : Nat) : Int)]
def pairK (H : Hp) (v : V) : Int × Int := match v with
  | .ref t => (match H t with
    | some (.tup [.int a, .int b]) => (a, b)
    | _ => (0, 0))
  | _ => (0, 0)
theorem pairK_at {H : Hp} {t : Addr} {a b : Int} (h : H t = some (.tup [.int a, .int b])) : pairK H (.ref t) = (a, b) := by
  simp only [pairK, h]
/-- from turns to items -/
theorem turns_items {α : Type} {Rr : V → α → Prop} {G : List α} {ys : List V} (h : Paired (fun i v => ∃ e, G[i]? = some e ∧ Rr v e) (List.range G.length) ys) : Paired Rr ys G := by
  have : ∀ (F G : List α) (ys : List V), Paired (fun i v => ∃ e, (F ++ G)[i]? = some e ∧ Rr v e) (List.range' F.length G.length) ys → Paired Rr ys G := by
    intro F G
    induction G generalizing F with
    | nil => intro ys h; cases h; exact .nil
    | cons g G ih =>
      intro ys h
      rw [List.length_cons, List.range'_succ] at h
      cases h with
      | cons a b =>
        obtain ⟨e, he, r⟩ := a
        have e1 : e = g := by
          rw [List.getElem?_append_right (Nat.le_refl _), Nat.sub_self] at he
          exact (Option.some.inj he).symm
        subst e1
        refine .cons r (ih (F ++ [e]) _ ?_)
        rw [List.append_assoc, List.length_append]
        exact b
  exact this [] G ys (by rw [List.nil_append, List.length_nil, ← List.range_eq_range']; exact h)
theorem paired_mem {α β : Type} {R : α → β → Prop} : ∀ {xs : List α} {ys : List β} {x : α}, Paired R xs ys → x ∈ xs → ∃ y ∈ ys, R x y
  | _, _, _, .nil, h => by cases h
  | _, _, x, .cons (b := b) q t, h => by
    rcases List.mem_cons.mp h with h | h
    · subst h
      exact ⟨b, List.mem_cons_self, q⟩
    · obtain ⟨y, hy, r⟩ := paired_mem t h
      exact ⟨y, List.mem_cons_of_mem _ hy, r⟩
theorem paired_mem' {α β : Type} {R : α → β → Prop} : ∀ {xs : List α} {ys : List β} {y : β}, Paired R xs ys → y ∈ ys → ∃ x ∈ xs, R x y
  | _, _, _, .nil, h => by cases h
  | _, _, y, .cons (a := a) q t, h => by
    rcases List.mem_cons.mp h with h | h
    · subst h
      exact ⟨a, List.mem_cons_self, q⟩
    · obtain ⟨x, hx, r⟩ := paired_mem' t h
      exact ⟨x, List.mem_cons_of_mem _ hx, r⟩
def sp_best_left (K : PySem.W.Frag) : Sp := fun vs H Q _ => ∃ v tb, vs = [v] ∧ TakAt K H v tb ∧ (tb.map (·.1)).Nodup ∧ tb.length ≤ 100 ∧ ∀ v H', Same H H' → pairV K H' (bestL tb) v → Q v H'
theorem c_best_left (T : Txt K mg) : Cal P w K mg base CX0 1 "best_left" ["table"] (sp_best_left K) := by
  refine cal0 T.d_best_left sc_best_left (fun _ _ _ _ _ _ us hl => match us, hl with | [_], _ => rfl) (fun vs H Q E h => ?_) (fun f cdv A outer s H vs Q E hr h => ?_)
  · obtain ⟨v, tb, rfl, _⟩ := h
    rfl
  · obtain ⟨v, tb, rfl, ⟨d, kvs, rfl, hd, pd⟩, nd, h100, q⟩ := h
    refine ⟨_, (pss_cons (ps_set (i := 1) sc_best_left.nd rfl (Or.inl rfl) (pe_callB (srtPO K) rfl T.b_sorted (by decide +kernel) (pa_cons (pe_lock (pe_lc (own := [("some", 2)]) (g := gName 2) rfl sc_best_left.nd (pi_keys (pv 0)) (blkOk_by (own := [("some", 2)]) (N := ["table", "rows", "some"]) (sc := (defScope s_best_left)) (by decide +kernel)) (fun _ _ _ _ _ => pg_name (i := 2) sc_best_left.nd rfl (Or.inl rfl)) (fun _ _ _ _ _ => pts_nil) (fun _ _ _ _ _ => (pe_tup (pa_cons (pe_ix (ixT K) (pe_dget (hu_of hr) (pv 0) (pv 2) (fun _ _ => rfl)) pe_int (fun _ _ => rfl)) (pa_cons (pv 2) pa_nil)))))) pa_nil)))
      (pss_one (ps_ret (pe_ifExp (pt_cmpR (op_neLE K hr.units0) (pv 1) (pe_lst pa_nil) (nomark _)) (pe_ix (ixL K) (pv 1) pe_int (fun _ _ => rfl)) pe_non)))), ?_⟩
    refine ⟨d, .dK kvs, hd, trivial, fun od => ?_⟩
    have x1 : TExt H (upd H d (.frz od (.dK kvs))) := tx_upd (by rw [hd]; trivial)
    refine ⟨_, rfl, d, od, rfl, .inl ⟨kvs, upd_same, fun D hD => ?_⟩⟩
    refine lc_rel walk_keys hD (by rw [pd_len pd]; omega) (fun H' s => s _ _ upd_same) (fun _ => true) (fun i v H' => ∃ e, tb[i]? = some e ∧ ∃ p, v = .ref p ∧ H' p = some (.tup [.int e.2, .int ((e.1 : Nat) : Int)]))
      (fun i v H4 H5 l hl sb r => ?_) (fun i x H4 H5 l hi s4 hy y => ?_) (fun ys H4 s4 hy hp => ?_)
    · obtain ⟨e, he, p, rfl, hp⟩ := r
      exact ⟨e, he, p, rfl, sb _ _ (ne_of hp hl (fun z => nomatch z)) hp⟩
    · obtain ⟨rfl, k, v, hk, rfl⟩ := y
      obtain ⟨n, t, he, rfl, re⟩ := pd_at pd hk
      have dg : dget tb n = some t := dget_at nd he
      obtain ⟨v1, hv1, p, xs, rfl, hh⟩ := (pd_get n pd).2 t dg
      refine ⟨Same.refl _, rfl, fun Q' q' => q' H5 (Same.refl _), fun _ H6 s6 Q' q' => ?_⟩
      refine ⟨_, rfl, _, rfl, d, .ref p, rfl, .inl ⟨kvs, .inl _, .inr ⟨od, (s4.trans s6) _ _ upd_same⟩, rfl, hv1.symm⟩, p, _, 0, _, rfl, rfl, (x1.trans ((same_tx s4).trans (same_tx s6))).t hh, atI_nat (j := 0) rfl, _, rfl, (by show 2 ≤ sizeLine; decide), fun r nr => ?_⟩
      exact q' _ _ (same_new nr) ⟨_, he, r, rfl, upd_same⟩
    · have hfz : H4 d = some (.frz od (.dK kvs)) := s4 _ _ upd_same
      refine ⟨hfz, ?_⟩
      have hDd : D ≠ d := fun e => by rw [e, upd_same] at hD; cases hD
      have s5 : Same H (upd H4 d (.dK kvs)) := lock_same hd s4
      have hy5 : (upd H4 d (.dK kvs)) D = some (.lst ys) := by rw [upd_ne hDd]; exact hy
      have hpr : Paired (fun v e => ∃ p, v = .ref p ∧ (upd H4 d (.dK kvs)) p = some (.tup [.int e.2, .int ((e.1 : Nat) : Int)])) ys tb := by
        rw [show (List.range kvs.length).filter (fun _ => true) = List.range kvs.length by simp, pd_len pd] at hp
        refine paired_imp (turns_items (Rr := fun v e => ∃ p, v = .ref p ∧ H4 p = some (.tup [.int e.2, .int ((e.1 : Nat) : Int)])) hp) fun v e r => ?_
        obtain ⟨p, rfl, z⟩ := r
        exact ⟨p, rfl, by rw [upd_ne (ne_of z hfz (fun q => nomatch q))]; exact z⟩
      generalize (upd H4 d (.dK kvs)) = H5 at s5 hy5 hpr
      have hkey : ∀ v ∈ ys, ∃ e ∈ tb, ∃ p, v = .ref p ∧ H5 p = some (.tup [.int e.2, .int ((e.1 : Nat) : Int)]) := fun v hv => by
        obtain ⟨e, he, r⟩ := paired_mem hpr hv
        exact ⟨e, he, r⟩
      refine ⟨D, ys, pairK H5, rfl, sql hy5, fun v hv => ?_, fun zs p srt stb np => ?_⟩
      · obtain ⟨e, _, p, rfl, hp⟩ := hkey v hv
        exact ⟨p, rfl, by rw [pairK_at hp]; exact hp⟩
      · have s6 : Same H5 (upd H5 p (.lst zs)) := same_new np
        refine ⟨_, rfl, Nat.zero_le _, fun e0 ne0 => ?_⟩
        have s7 := s6.trans (same_new (o := .lst []) ne0)
        have hz7 : (upd (upd H5 p (.lst zs)) e0 (.lst [])) p = some (.lst zs) := by rw [upd_ne (ne_of_none upd_same ne0), upd_same]
        refine ⟨p, e0, zs, rfl, rfl, sql hz7, sql upd_same, _, rfl, ?_⟩
        cases zs with
        | nil =>
          have hys : ys = [] := List.Perm.nil_eq stb.perm |>.symm
          rw [hys] at hpr
          cases hpr
          exact iteF (q _ _ (s5.trans s7) rfl)
        | cons z zs =>
          refine iteT ?_
          have hz : z ∈ ys := stb.perm.subset List.mem_cons_self
          obtain ⟨e, he, pz, rfl, hpz⟩ := hkey z hz
          refine ⟨_, rfl, p, _, 0, _, rfl, rfl, sql hz7, atI_nat (j := 0) rfl, q _ _ (s5.trans s7) ?_⟩
          have hb : bestL tb = some (e.2, e.1) := by
            refine bestL_uniq he fun x hx => ?_
            obtain ⟨v, hv, pv, rfl, hpv⟩ := paired_mem' hpr hx
            have hv' : V.ref pv ∈ V.ref pz :: zs := stb.perm.symm.subset hv
            rcases List.mem_cons.mp hv' with h | h
            · injection h with h
              subst h
              rw [hpz] at hpv
              injection hpv with hpv
              injection hpv with hpv
              injection hpv with e1 e2
              injection e1 with e1
              injection e2 with e2 _
              injection e2 with e2
              refine plt_no.mpr ?_
              dsimp only
              omega
            · have hl := List.rel_of_pairwise_cons srt h
              have hl : SrtO.lexB (pairK H5 (.ref pv)) (pairK H5 (.ref pz)) = false := hl
              rw [pairK_at hpz, pairK_at hpv] at hl
              have hl := SrtO.lexB_no.mp hl
              refine plt_no.mpr ?_
              dsimp only at hl ⊢
              omega
          rw [hb]
          exact ⟨pz, rfl, sqt (s7 _ _ hpz)⟩
/-! ### least_of -/
theorem tak_of {H : Hp} {D : Addr} {ds : List Addr} {c : Case} (h : TabsAt K H D ds (tab c)) {k : Nat} {d : Addr} (e : ds[k]? = some d) : TakAt K H (.ref d) (takes (tab c k)) := by
  obtain ⟨kvs, z, pz⟩ := h.at_ k d e
  exact ⟨d, kvs, rfl, z, pd_heads pz⟩
theorem tab_len {c : Case} (wf : WfL c.L) {p : Nat} (hp : p ≤ c.L.length) : (tab c p).length ≤ c.left + 1 := by
  rw [tab_eq wf hp, tabOf_up]
  exact rowsUp_len _ _ _ _
theorem takes_len (t : Tab) : (takes t).length = t.length := by simp [takes]
def sp_least_of (K : PySem.W.Frag) : Sp := fun vs H Q _ => ∃ a b d c carts, vs = [.ref a, .ref b, .ref d, .int ((c.left : Nat) : Int)] ∧ CaseAt K H a b d c carts ∧ ∀ H', Same H H' → Q (oiV (least c)) H'
theorem c_least_of (T : Txt K mg) : Cal P w K mg base CX0 4 "least_of" ["land", "works", "wants", "left"] (sp_least_of K) := by
  refine cal0 T.d_least_of sc_least_of (fun _ _ _ _ _ _ us hl => match us, hl with | [_, _, _, _], _ => rfl) (fun vs H Q E h => ?_) (fun f cdv A outer s H vs Q E hr h => ?_)
  · obtain ⟨a, b, d, c, carts, rfl, _⟩ := h
    rfl
  · obtain ⟨a, b, d, c, carts, rfl, hC, q⟩ := h
    refine ⟨_, (pss_cons (ps_set (i := 4) sc_least_of.nd rfl (Or.inl rfl) (pcall (c_best_left T) (hr.mono (by omega)) (pa_cons (pe_ix (ixL K) (pcall (c_tables_of T) (hr.mono (by omega)) (pa_cons (pv 0) (pa_cons (pv 1) (pa_cons (pv 2) (pa_cons (pv 3) pa_nil))))) pe_int (fun _ _ => rfl)) pa_nil)))
      (pss_one (ps_ret (pe_ifExp (pt_cmpR op_isN (pv 4) pe_non (nomark _)) pe_non (pe_ix (ixT K) (pv 4) pe_int (fun _ _ => rfl)))))), ?_⟩
    have h6 : c.left ≤ 6 := Nat.le_trans hC.lf hC.c6
    refine ⟨_, rfl, _, rfl, _, rfl, _, rfl, a, b, d, c, carts, rfl, hC, fun D ds H1 nD s1 hl hf tb => ?_⟩
    have h0 : 0 < ds.length := by omega
    have e0 : ds[0]? = some ds[0] := List.getElem?_eq_getElem h0
    refine ⟨D, _, 0, .ref ds[0], rfl, rfl, sql tb.l, atI_nat (j := 0) (by rw [List.getElem?_map, e0]; rfl), ?_⟩
    refine ⟨_, _, rfl, tak_of tb e0, takes_nd (tab_nd hC.wf (Nat.zero_le _)), by rw [takes_len]; have := tab_len hC.wf (Nat.zero_le c.L.length); omega, fun v H2 s2 hv => ?_⟩
    unfold least at q
    cases hb : bestL (takes (tab c 0)) with
    | none =>
      rw [hb] at hv q
      have hv : v = .non := hv
      subst hv
      exact ⟨_, rfl, rfl, true, rfl, iteT (q _ (s1.trans s2))⟩
    | some m =>
      rw [hb] at hv q
      obtain ⟨p, rfl, hp⟩ := hv
      exact ⟨_, rfl, rfl, false, rfl, iteF ⟨_, rfl, p, _, 0, _, rfl, rfl, hp, rfl, q _ (s1.trans s2)⟩⟩
end
end Oa
namespace Oat
/-! ### partings: which counts, what sum -/
inductive Parts : List (List (Nat × Int)) → List Nat → Int → Nat → Prop
  | nil : Parts [] [] 0 0
  | snoc {ts : List (List (Nat × Int))} {part : List Nat} {s : Int} {n : Nat} {tb : List (Nat × Int)} {k : Nat} {t : Int} : Parts ts part s n → (k, t) ∈ tb → Parts (ts ++ [tb]) (part ++ [k]) (s + t) (n + k)
def FndOk (ts : List (List (Nat × Int))) (left : Nat) (F : Fnd) : Prop := ∀ e ∈ F, Parts ts e.2.2 e.2.1 e.1 ∧ e.1 ≤ left
theorem ok_add {ts : List (List (Nat × Int))} {left used : Nat} {u : Int × List Nat} {acc : Fnd} {tb : List (Nat × Int)} {s : Nat × Int} (hu : Parts ts u.2 u.1 used) (hs : s ∈ tb) (h : FndOk (ts ++ [tb]) left acc) : FndOk (ts ++ [tb]) left (addRow left used u acc s) := by
  unfold addRow
  split
  · rename_i hle
    intro e he
    rcases mem_dput he with h1 | h1
    · exact h e h1
    · subst h1
      refine ⟨?_, hle⟩
      have hnew : Parts (ts ++ [tb]) (u.2 ++ [s.1]) (u.1 + s.2) (used + s.1) := .snoc hu hs
      show Parts (ts ++ [tb]) (rmin _ _).2 (rmin _ _).1 (used + s.1)
      unfold rmin
      split
      · exact hnew
      · cases z : dget acc (used + s.1) with
        | none => exact hnew
        | some o => exact (h _ (mem_dget z)).1
  · exact h
theorem ok_inner {ts : List (List (Nat × Int))} {left used : Nat} {u : Int × List Nat} {tb : List (Nat × Int)} (hu : Parts ts u.2 u.1 used) : ∀ (t : List (Nat × Int)) (acc : Fnd), (∀ s ∈ t, s ∈ tb) → FndOk (ts ++ [tb]) left acc → FndOk (ts ++ [tb]) left (t.foldl (addRow left used u) acc)
  | [], _, _, h => h
  | s :: t, _, hs, h => ok_inner hu t _ (fun x hx => hs x (List.mem_cons_of_mem _ hx)) (ok_add hu (hs s List.mem_cons_self) h)
theorem ok_mid {ts : List (List (Nat × Int))} {left : Nat} {tb : List (Nat × Int)} : ∀ (F acc : Fnd), FndOk ts left F → FndOk (ts ++ [tb]) left acc → FndOk (ts ++ [tb]) left (F.foldl (fun acc e => tb.foldl (addRow left e.1 e.2) acc) acc)
  | [], _, _, h => h
  | e :: F, _, hF, h => ok_mid F _ (fun x hx => hF x (List.mem_cons_of_mem _ hx)) (ok_inner (hF e List.mem_cons_self).1 tb _ (fun _ hs => hs) h)
theorem ok_foldl {left : Nat} : ∀ (us ts : List (List (Nat × Int))) (F : Fnd), FndOk ts left F → FndOk (ts ++ us) left (us.foldl (stepBest left) F)
  | [], ts, _, h => by rw [List.append_nil]; exact h
  | u :: us, ts, F, h => by
    have h1 : FndOk (ts ++ [u]) left (stepBest left F u) := ok_mid F [] h (fun _ he => by cases he)
    have := ok_foldl us (ts ++ [u]) _ h1
    rw [List.append_assoc] at this
    exact this
theorem ok_bestF (ts : List (List (Nat × Int))) (left : Nat) : FndOk ts left (bestF ts left) := by
  have := ok_foldl (left := left) ts [] [(0, (0, []))] (fun e he => by
    rw [List.mem_singleton.mp he]
    exact ⟨.nil, Nat.zero_le _⟩)
  exact this
theorem rmin_foldl_mem : ∀ (r : Fnd) (e : Int × List Nat), r.foldl (fun m x => rmin m x.2) e = e ∨ ∃ x ∈ r, r.foldl (fun m x => rmin m x.2) e = x.2
  | [], _ => .inl rfl
  | x :: r, e => by
    rcases rmin_foldl_mem r (rmin e x.2) with h | ⟨y, hy, h⟩
    · rw [List.foldl_cons, h]
      unfold rmin
      split
      · exact .inr ⟨x, List.mem_cons_self, rfl⟩
      · exact .inl rfl
    · exact .inr ⟨y, List.mem_cons_of_mem _ hy, h⟩
theorem best_mem {ts : List (List (Nat × Int))} {left : Nat} {b : Int × List Nat} (h : best ts left = some b) : ∃ n, (n, b) ∈ bestF ts left := by
  unfold best at h
  cases hF : bestF ts left with
  | nil => rw [hF] at h; cases h
  | cons e r =>
    rw [hF] at h
    have h := Option.some.inj h
    rcases rmin_foldl_mem r e.2 with h1 | ⟨x, hx, h1⟩
    · exact ⟨e.1, by rw [← h, h1]; exact List.mem_cons_self⟩
    · exact ⟨x.1, by rw [← h, h1]; exact List.mem_cons_of_mem _ hx⟩
theorem best_parts {ts : List (List (Nat × Int))} {left : Nat} {b : Int × List Nat} (h : best ts left = some b) : ∃ n, n ≤ left ∧ Parts ts b.2 b.1 n := by
  obtain ⟨n, hn⟩ := best_mem h
  have := ok_bestF ts left _ hn
  exact ⟨n, this.2, this.1⟩
theorem Parts.len {ts : List (List (Nat × Int))} {part : List Nat} {s : Int} {n : Nat} (h : Parts ts part s n) : part.length = ts.length := by
  induction h with
  | nil => rfl
  | snoc _ _ ih => simp [ih]
theorem Parts.at_ {ts : List (List (Nat × Int))} {part : List Nat} {s : Int} {n : Nat} (h : Parts ts part s n) : ∀ (i : Nat) (k : Nat), part[i]? = some k → ∃ tb t, ts[i]? = some tb ∧ (k, t) ∈ tb := by
  induction h with
  | nil => intro i k h; simp at h
  | @snoc ts part s n tb k t h hm ih =>
    intro i k' hk
    have hl := h.len
    by_cases hi : i < part.length
    · rw [List.getElem?_append_left hi] at hk
      obtain ⟨tb', t', h1, h2⟩ := ih i k' hk
      exact ⟨tb', t', by rw [List.getElem?_append_left (by omega)]; exact h1, h2⟩
    · have hi2 : i = part.length := by
        have := (List.getElem?_eq_some_iff.mp hk).1
        simp at this
        omega
      subst hi2
      rw [List.getElem?_append_right (Nat.le_refl _), Nat.sub_self] at hk
      have := Option.some.inj hk
      subst this
      exact ⟨tb, t, by rw [hl, List.getElem?_append_right (Nat.le_refl _), Nat.sub_self]; rfl, hm⟩
/-! ### rows of a table -/
theorem tab_row {c : Case} (wf : WfL c.L) {p e : Nat} (hp : p ≤ c.L.length) {r : TRow} (h : dget (tab c p) e = some r) : e ≤ c.left ∧ Oat.rowOf c p ((kids c.L p).map fun k => takes (tab c k)) e = some r := by
  have hm := mem_dget h
  rw [tab_eq wf hp, tabOf_up] at hm
  have := rowsUp_mem hm
  exact ⟨by omega, this.2⟩
theorem takenOf_part {c : Case} {p e : Nat} {n : Int × List Nat} {r : TRow} (h : takenOf c p n e = some r) : r.part = n.2 := by
  unfold takenOf at h
  split at h
  · rw [← Option.some.inj h]
  · split at h
    · rw [← Option.some.inj h]
    · obtain ⟨o, _, rfl⟩ := Option.map_eq_some_iff.mp h
      rfl
theorem rowOf_best {c : Case} {p e : Nat} {ts : List (List (Nat × Int))} {r : TRow} (h : Oat.rowOf c p ts e = some r) : ∃ b, best ts e = some (b, r.part) := by
  unfold Oat.rowOf needOf at h
  cases hb : best ts e with
  | none => rw [hb] at h; cases h
  | some b =>
    rw [hb] at h
    have := takenOf_part h
    exact ⟨b.1, by rw [this]⟩
theorem dget_mem {α : Type} {F : List (Nat × α)} {k : Nat} {a : α} (h : (k, a) ∈ F) : (dget F k).isSome = true := by
  cases z : dget F k with
  | some b => rfl
  | none =>
    have : ∀ x ∈ F, x.1 ≠ k := by
      intro x hx
      induction F with
      | nil => cases hx
      | cons y F ih =>
        obtain ⟨j, b⟩ := y
        simp only [dget] at z
        split at z
        · cases z
        · rename_i hj
          rcases List.mem_cons.mp hx with e | e
          · subst e; exact hj
          · rcases List.mem_cons.mp h with e2 | e2
            · injection e2 with e2 _
              exact absurd e2.symm hj
            · exact ih e2 z e
    exact absurd rfl (this _ h)
theorem dget_takes {t : Tab} {k : Nat} : (dget (takes t) k).isSome = (dget t k).isSome := by
  induction t with
  | nil => rfl
  | cons x t ih =>
    obtain ⟨j, r⟩ := x
    show (dget ((j, r.tk) :: takes t) k).isSome = _
    simp only [dget]
    split
    · rfl
    · exact ih
theorem tab_part {c : Case} (wf : WfL c.L) {p e : Nat} (hp : p ≤ c.L.length) {r : TRow} (h : dget (tab c p) e = some r) :
    r.part.length = (kids c.L p).length ∧ ∀ (i k : Nat), r.part[i]? = some k → ∃ kid, (kids c.L p)[i]? = some kid ∧ (dget (tab c kid) k).isSome = true := by
  obtain ⟨_, hr⟩ := tab_row wf hp h
  obtain ⟨b, hb⟩ := rowOf_best hr
  obtain ⟨n, _, hP⟩ := best_parts hb
  have hl := hP.len
  rw [List.length_map] at hl
  refine ⟨hl, fun i k hk => ?_⟩
  obtain ⟨tb, t, h1, h2⟩ := hP.at_ i k hk
  rw [List.getElem?_map] at h1
  obtain ⟨kid, h3, rfl⟩ := Option.map_eq_some_iff.mp h1
  exact ⟨kid, h3, by rw [← dget_takes]; exact dget_mem h2⟩
/-! ### the told way -/
def setKids (cs : List Nat) (ks part : List Nat) : List Nat := (ks.zip part).foldl (fun cs x => cs.set x.1 x.2) cs
def cntStep (c : Case) (cs : List Nat) (p : Nat) : List Nat := match dget (tab c p) (cs.getD p 0) with
  | none => cs
  | some r => setKids cs (kids c.L p) r.part
def counts (c : Case) (e : Nat) : List Nat := (List.range (c.L.length + 1)).foldl (cntStep c) ((List.replicate (c.L.length + 1) 0).set 0 e)
def told (c : Case) : Option (List Nat) := (bestL (takes (tab c 0))).map fun m => counts c m.2
theorem setKids_len (ks part : List Nat) : ∀ cs : List Nat, (setKids cs ks part).length = cs.length := by
  unfold setKids
  generalize ks.zip part = l
  induction l with
  | nil => intro cs; rfl
  | cons x l ih => intro cs; rw [List.foldl_cons, ih, List.length_set]
theorem kids_nd (L : List Nat) (p : Nat) : (kids L p).Nodup := by
  unfold kids
  have h1 : ((List.range L.length).filter fun i => L.getD i 0 == p).Nodup := List.Nodup.sublist List.filter_sublist List.nodup_range
  refine List.Pairwise.map _ (fun a b (h : a ≠ b) => ?_) h1
  show a + 1 ≠ b + 1
  omega
theorem setKids_out {ks part cs : List Nat} {q : Nat} (h : q ∉ ks) : (setKids cs ks part)[q]? = cs[q]? := by
  unfold setKids
  have hz : ∀ x ∈ ks.zip part, x.1 ≠ q := fun x hx e => h (e ▸ (List.of_mem_zip (a := x.1) (b := x.2) hx).1)
  revert cs hz
  generalize ks.zip part = l
  induction l with
  | nil => intro cs _; rfl
  | cons x l ih =>
    intro cs hz
    rw [List.foldl_cons, ih (fun y hy => hz y (List.mem_cons_of_mem _ hy)), List.getElem?_set_ne (hz x List.mem_cons_self)]
theorem setKids_at : ∀ {ks part cs : List Nat} {i q k : Nat}, ks.Nodup → ks[i]? = some q → part[i]? = some k → q < cs.length → (setKids cs ks part)[q]? = some k
  | [], _, _, i, _, _, _, h, _, _ => by simp at h
  | _ :: _, [], _, i, _, _, _, _, h, _ => by simp at h
  | x :: ks, y :: part, cs, 0, q, k, nd, h1, h2, hq => by
    have h1 := Option.some.inj h1
    have h2 := Option.some.inj h2
    subst h1 h2
    show (setKids (cs.set x y) ks part)[x]? = some y
    rw [setKids_out (List.nodup_cons.mp nd).1, List.getElem?_set_self (by simpa using hq)]
  | x :: ks, y :: part, cs, i + 1, q, k, nd, h1, h2, hq => by
    show (setKids (cs.set x y) ks part)[q]? = some k
    exact setKids_at (List.nodup_cons.mp nd).2 (by simpa using h1) (by simpa using h2) (by simpa using hq)
/-- all places that are known so far have a row -/
def Known (c : Case) (i : Nat) (cs : List Nat) : Prop := cs.length = c.L.length + 1 ∧ ∀ p, p ≤ c.L.length → (p = 0 ∨ c.L.getD (p - 1) 0 < i) → (dget (tab c p) (cs.getD p 0)).isSome = true
theorem known_step {c : Case} (wf : WfL c.L) {i : Nat} {cs : List Nat} (hi : i ≤ c.L.length) (h : Known c i cs) : Known c (i + 1) (cntStep c cs i) ∧ ∃ r, dget (tab c i) (cs.getD i 0) = some r ∧ cntStep c cs i = setKids cs (kids c.L i) r.part := by
  have hk : (dget (tab c i) (cs.getD i 0)).isSome = true := h.2 i hi (by
    by_cases z : i = 0
    · exact .inl z
    · have := wf (i - 1) (by omega)
      exact .inr (by omega))
  obtain ⟨r, hr⟩ := Option.isSome_iff_exists.mp hk
  have he : cntStep c cs i = setKids cs (kids c.L i) r.part := by
    unfold cntStep
    rw [hr]
  refine ⟨?_, r, hr, he⟩
  rw [he]
  obtain ⟨hl, hp⟩ := tab_part wf hi hr
  refine ⟨by rw [setKids_len]; exact h.1, fun p hpl hpp => ?_⟩
  by_cases hm : p ∈ kids c.L i
  · obtain ⟨j, hj⟩ := List.getElem?_of_mem hm
    have hjl : j < r.part.length := by rw [hl]; exact (List.getElem?_eq_some_iff.mp hj).1
    obtain ⟨kid, h1, h2⟩ := hp j r.part[j] (List.getElem?_eq_getElem hjl)
    have : kid = p := Option.some.inj (h1.symm.trans hj)
    subst this
    rw [List.getD_eq_getElem?_getD, setKids_at (kids_nd _ _) hj (List.getElem?_eq_getElem hjl) (by rw [h.1]; omega)]
    exact h2
  · rw [List.getD_eq_getElem?_getD, setKids_out hm, ← List.getD_eq_getElem?_getD]
    refine h.2 p hpl ?_
    rcases hpp with z | z
    · exact .inl z
    · by_cases z0 : p = 0
      · exact .inl z0
      · right
        have : c.L.getD (p - 1) 0 ≠ i := fun e => hm (mem_kids.mpr ⟨p - 1, by omega, e, by omega⟩)
        omega
theorem known_start {c : Case} {m : Int × Nat} (h : bestL (takes (tab c 0)) = some m) : Known c 0 ((List.replicate (c.L.length + 1) 0).set 0 m.2) := by
  refine ⟨by simp, fun p hp hpp => ?_⟩
  have z : p = 0 := by
    rcases hpp with z | z
    · exact z
    · exact absurd z (Nat.not_lt_zero _)
  subst z
  have e : ((List.replicate (c.L.length + 1) 0).set 0 m.2).getD 0 0 = m.2 := by simp
  rw [e]
  obtain ⟨n, h1, h2, _⟩ := bestL_some (tb := takes (tab c 0)) (fun z => by rw [z] at h; cases h)
  have : n = m := Option.some.inj (h1.symm.trans h)
  subst this
  rw [← dget_takes]
  exact dget_mem h2
theorem known_upto {c : Case} (wf : WfL c.L) {m : Int × Nat} (h : bestL (takes (tab c 0)) = some m) : ∀ i, i ≤ c.L.length + 1 → Known c i ((List.range i).foldl (cntStep c) ((List.replicate (c.L.length + 1) 0).set 0 m.2))
  | 0, _ => known_start h
  | i + 1, hi => by
    rw [List.range_succ, List.foldl_append]
    exact (known_step wf (by omega) (known_upto wf h i (by omega))).1
end Oat
namespace Oa
open PySem PySem.Spec PyProof.Rows L2 Oat
section
variable {P : Program} {w : World} {K : PySem.W.Frag} {mg : Str → Option Value} {base : Heap}
/-! ### least -/
def sp_least (K : PySem.W.Frag) : Sp := fun vs H Q _ => ∃ a b d c carts, vs = [.ref a, .ref b, .ref d, .int ((c.left : Nat) : Int)] ∧ CaseAt K H a b d c carts ∧ c.room ≤ 20 ∧ ∀ H', Same H H' → Q (oiV (least c)) H'
theorem c_least (T : Txt K mg) : CalK P w K mg base CX0 5 "least" ["land", "works", "wants", "left"] 3 "left" (.int 0) (sp_least K) := by
  refine calK T.d_least sc_least rfl (fun _ _ _ _ _ _ us ws h1 h2 => match us, ws, h1, h2 with | [_, _, _], [_], _, _ => rfl) (fun _ _ _ _ _ _ us ws h1 h2 => match us, ws, h1, h2 with | [_, _, _], [_], _, _ => ⟨_, _, _, _, _, _, rfl, rfl, rfl⟩) (fun vs H Q E h => ?_) (fun f cdv A outer s H vs Q E hr h => ?_)
  · obtain ⟨a, b, d, c, carts, rfl, _⟩ := h
    rfl
  · obtain ⟨a, b, d, c, carts, rfl, hC, h20, q⟩ := h
    refine ⟨_, (pss_cons (ps_expr (pcall (c_look_case T) (hr.mono (by omega)) (pa_cons (pv 0) (pa_cons (pv 1) (pa_cons (pv 2) (pa_cons (pv 3) pa_nil))))))
      (pss_one (ps_ret (pcall (c_least_of T) (hr.mono (by omega)) (pa_cons (pv 0) (pa_cons (pv 1) (pa_cons (pv 2) (pa_cons (pv 3) pa_nil)))))))), ?_⟩
    refine ⟨_, rfl, _, rfl, _, rfl, _, rfl, a, b, d, c, carts, rfl, hC, h20, fun H1 s1 => ?_⟩
    exact ⟨_, rfl, _, rfl, _, rfl, _, rfl, a, b, d, c, carts, rfl, hC.same s1, fun H2 s2 => q H2 (s1.trans s2)⟩
/-! ### told_way -/
def toldV (H0 H : Hp) (o : Option (List Nat)) (v : V) : Prop := match o with
  | none => v = .non
  | some cs => ∃ l, v = .ref l ∧ H0 l = none ∧ H l = some (.lst (cs.map fun (n : Nat) => V.int (n : Int)))
def sp_told_way (K : PySem.W.Frag) : Sp := fun vs H Q _ => ∃ a b d c carts, vs = [.ref a, .ref b, .ref d, .int ((c.left : Nat) : Int)] ∧ CaseAt K H a b d c carts ∧ ∀ v H', Same H H' → toldV H H' (told c) v → Q v H'
theorem foldl_range_succ {α : Type} {f : α → Nat → α} {a : α} (n : Nat) : (List.range (n + 1)).foldl f a = f ((List.range n).foldl f a) n := by
  rw [List.range_succ, List.foldl_append]
  rfl
theorem map_set_int (cs : List Nat) (i k : Nat) : (cs.map fun (n : Nat) => V.int (n : Int)).set i (.int (k : Int)) = (cs.set i k).map fun (n : Nat) => V.int (n : Int) := by
  rw [List.map_set]
theorem ixN_nat {n j : Nat} (h : j < n) : ixN n (j : Int) = some j := by
  unfold ixN
  rw [if_pos (by omega), if_pos (by omega)]
  simp
theorem c_told_way (T : Txt K mg) : Cal P w K mg base CX0 4 "told_way" ["land", "works", "wants", "left"] (sp_told_way K) := by
  refine cal0 T.d_told_way sc_told_way (fun _ _ _ _ _ _ us hl => match us, hl with | [_, _, _, _], _ => rfl) (fun vs H Q E h => ?_) (fun f cdv A outer s H vs Q E hr h => ?_)
  · obtain ⟨a, b, d, c, carts, rfl, _⟩ := h
    rfl
  · obtain ⟨a, b, d, c, carts, rfl, hC, q⟩ := h
    refine ⟨_, (pss_cons (ps_set (i := 4) sc_told_way.nd rfl (Or.inl rfl) (pcall (c_tables_of T) (hr.mono (by omega)) (pa_cons (pv 0) (pa_cons (pv 1) (pa_cons (pv 2) (pa_cons (pv 3) pa_nil))))))
      (pss_cons (ps_set (i := 5) sc_told_way.nd rfl (Or.inl rfl) (pcall (c_best_left T) (hr.mono (by omega)) (pa_cons (pe_ix (ixL K) (pv 4) pe_int (fun _ _ => rfl)) pa_nil)))
      (pss_cons (ps_if (pt_cmpR op_isN (pv 5) pe_non (nomark _)) (pss_one (ps_ret pe_non)) pss_nil)
      (pss_cons (ps_set (i := 6) sc_told_way.nd rfl (Or.inl rfl) (pe_op op_rep (pe_lst (pa_cons pe_int pa_nil)) (pe_callB (lenS K) rfl T.b_len PySem.boot_len (pa_cons (pv 0) pa_nil))))
      (pss_cons (ps_asg (pe_ix (ixT K) (pv 5) pe_int (fun _ _ => rfl)) (pg_sub (pv 6) pe_int set_list))
      (pss_cons (ps_for PassesOwn.never rfl (pi_range1 rfl T.b_range (pa_cons (pe_callB (lenS K) rfl T.b_len PySem.boot_len (pa_cons (pv 0) pa_nil)) pa_nil)) (pg_name (i := 7) sc_told_way.nd rfl (Or.inl rfl)) (pss_cons (ps_set (i := 8) sc_told_way.nd rfl (Or.inl rfl) (pe_ix (ixT K) (pe_dget (hu_of hr) (pe_ix (ixL K) (pv 4) (pv 7) (fun _ _ => rfl)) (pe_ix (ixL K) (pv 6) (pv 7) (fun _ _ => rfl)) (fun _ _ => rfl)) pe_int (fun _ _ => rfl)))
      (pss_one (ps_for PassesOwn.never rfl (pi_enum rfl T.b_enumerate (pa_cons (pcall (c_beyond T) (hr.mono (by omega)) (pa_cons (pv 0) (pa_cons (pv 7) pa_nil))) pa_nil)) (pg_tup rfl (pgs_cons (pg_name (i := 9) sc_told_way.nd rfl (Or.inl rfl)) (pgs_cons (pg_name (i := 10) sc_told_way.nd rfl (Or.inl rfl)) pgs_nil))) (pss_one (ps_asg (pe_ix (ixT K) (pv 8) (pv 9) (fun _ _ => rfl)) (pg_sub (pv 6) (pv 10) set_list)))))))
      (pss_one (ps_ret (pv 6))))))))), ?_⟩
    have h6 : c.left ≤ 6 := Nat.le_trans hC.lf hC.c6
    have hn := hC.n
    have el : (landV c.L).length = c.L.length + 1 := landV_len c.L
    refine ⟨_, rfl, _, rfl, _, rfl, _, rfl, a, b, d, c, carts, rfl, hC, fun D ds H1 nD s1 hl hf tb => ?_⟩
    have h0 : 0 < ds.length := by omega
    have e0 : ds[0]? = some ds[0] := List.getElem?_eq_getElem h0
    refine ⟨_, rfl, D, _, 0, .ref ds[0], rfl, rfl, sql tb.l, atI_nat (j := 0) (by rw [List.getElem?_map, e0]; rfl), ?_⟩
    refine ⟨_, _, rfl, tak_of tb e0, takes_nd (tab_nd hC.wf (Nat.zero_le _)), by rw [takes_len]; have := tab_len hC.wf (Nat.zero_le c.L.length); omega, fun v H2 s2 hv => ?_⟩
    cases hb : bestL (takes (tab c 0)) with
    | none =>
      rw [hb] at hv
      have hv : v = .non := hv
      subst hv
      refine ⟨_, rfl, rfl, true, rfl, iteT (q _ _ (s1.trans s2) ?_)⟩
      unfold told
      rw [hb]
      rfl
    | some m =>
      rw [hb] at hv
      obtain ⟨pm, rfl, hpm⟩ := hv
      have ht : told c = some (counts c m.2) := by
        unfold told
        rw [hb]
        rfl
      rw [ht] at q
      refine ⟨_, rfl, rfl, false, rfl, iteF ?_⟩
      have s12 := s1.trans s2
      have tb2 := tb.same s2
      -- found = [0] * len(land)
      refine ⟨(by show 1 ≤ sizeLine; decide), fun z nz => ?_⟩
      have sz : Same H2 (upd H2 z (.lst [.int 0])) := same_new nz
      refine ⟨_, rfl, a, _, rfl, .inr (same_t (s12.trans sz) hC.l), z, _, _, rfl, rfl, upd_same, by omega, by omega, ?_, fun l nl => ?_⟩
      · rw [List.length_singleton, Nat.one_mul]
        exact Nat.le_of_lt (small1000 (by omega))
      · have er : (List.replicate (((landV c.L).length : Int)).toNat [V.int 0]).flatten = (List.replicate (c.L.length + 1) 0).map fun (n : Nat) => V.int (n : Int) := by
          rw [el, show (((c.L.length + 1 : Nat) : Int)).toNat = c.L.length + 1 by omega, List.map_replicate]
          generalize c.L.length + 1 = n
          induction n with
          | zero => rfl
          | succ n ih => rw [List.replicate_succ, List.flatten_cons, ih]; rfl
        rw [er]
        have s3 : Same H2 (upd (upd H2 z (.lst [.int 0])) l (.lst ((List.replicate (c.L.length + 1) 0).map fun (n : Nat) => V.int (n : Int)))) := sz.trans (same_new nl)
        have hl3 : (upd (upd H2 z (.lst [.int 0])) l (.lst ((List.replicate (c.L.length + 1) 0).map fun (n : Nat) => V.int (n : Int)))) l = some (.lst ((List.replicate (c.L.length + 1) 0).map fun (n : Nat) => V.int (n : Int))) := upd_same
        have nlH2 : H2 l = none := sz.free nl
        generalize (upd (upd H2 z (.lst [.int 0])) l (.lst ((List.replicate (c.L.length + 1) 0).map fun (n : Nat) => V.int (n : Int)))) = H3 at s3 hl3
        -- found[0] = best[1]
        refine ⟨_, rfl, pm, _, 1, _, rfl, rfl, same_t s3 hpm, rfl, _, rfl, l, _, 0, 0, rfl, rfl, hl3, ixN_nat (j := 0) (by simp), ?_⟩
        rw [map_set_int]
        have nlH : H l = none := s12.free nlH2
        have nld : ∀ x ∈ ds, x ≠ l := fun x hx e => by
          obtain ⟨k, hk⟩ := List.getElem?_of_mem hx
          obtain ⟨kv, z1, _⟩ := tb2.at_ k x hk
          rw [e, nlH2] at z1
          cases z1
        have nDl : D ≠ l := fun e => by have := tb2.l; rw [e, nlH2] at this; cases this
        have keep : ∀ (H4 : Hp), Same H2 H4 → ∀ o, Same H2 (upd H4 l o) := fun H4 s o => same_mut s nlH2
        -- for place in range(len(land))
        refine ⟨_, rfl, a, _, rfl, .inr (same_t (s12.trans (keep _ s3 _)) hC.l), _, rfl, by omega, by omega, ?_⟩
        rw [el, show (((c.L.length + 1 : Nat) : Int)).toNat = c.L.length + 1 by omega]
        refine for_it walk_range (fun i σ H4 => ∃ y7 y8 y9 y10, σ = [some (.ref a), some (.ref b), some (.ref d), some (.int ((c.left : Nat) : Int)), some (.ref D), some (.ref pm), some (.ref l), y7, y8, y9, y10] ∧ Same H2 H4 ∧
            H4 l = some (.lst (((List.range i).foldl (cntStep c) ((List.replicate (c.L.length + 1) 0).set 0 m.2)).map fun (n : Nat) => V.int (n : Int))))
          ⟨none, none, none, none, rfl, keep _ s3 _, upd_same⟩ (fun _ _ _ _ _ => trivial) (fun i x σ H4 H5 hi p y => ?_) (fun σ H4 p => ?_)
        · obtain ⟨y7, y8, y9, y10, rfl, s4, h4⟩ := p
          obtain ⟨rfl, rfl⟩ := y
          dsimp only
          rw [Int.zero_add]
          have kn := known_upto hC.wf hb i (by omega)
          obtain ⟨_, r, hr1, hr2⟩ := known_step hC.wf (show i ≤ c.L.length by omega) kn
          rw [foldl_range_succ]
          rw [hr2]
          have hlen := kn.1
          generalize ((List.range i).foldl (cntStep c) ((List.replicate (c.L.length + 1) 0).set 0 m.2)) = cs at h4 kn hr1 hlen
          have hid : i < ds.length := by omega
          have tb5 := tb2.same s4
          obtain ⟨kv, hz, pz⟩ := tb5.at_ i ds[i] (List.getElem?_eq_getElem hid)
          obtain ⟨vr, hvr, pr, qr, rfl, hr3, hr4⟩ := (pd_get (cs.getD i 0) pz).2 r hr1
          have hci : cs[i]? = some (cs.getD i 0) := by
            rw [List.getD_eq_getElem?_getD, List.getElem?_eq_getElem (by omega)]
            rfl
          obtain ⟨hpl, _⟩ := tab_part hC.wf (show i ≤ c.L.length by omega) hr1
          -- parts = tables[place][found[place]][3]
          refine ⟨_, rfl, _, rfl, D, _, _, .ref ds[i], rfl, rfl, sql tb5.l, atI_nat (by rw [List.getElem?_map, List.getElem?_eq_getElem hid]; rfl), _, rfl, _, rfl, l, _, _, .int ((cs.getD i 0 : Nat) : Int), rfl, rfl, sql h4, atI_nat (by rw [List.getElem?_map, hci]; rfl), ?_⟩
          refine ⟨ds[i], .ref pr, rfl, .inl ⟨kv, .inl _, .inl hz, rfl, hvr.symm⟩, pr, _, 3, _, rfl, rfl, hr3, rfl, ?_⟩
          -- for k, child in enumerate(beyond(land, place))
          refine ⟨_, rfl, _, rfl, a, c.L, i, rfl, same_t (s12.trans s4) hC.l, hC.n, fun kl H6 nkl s6 hkl => ?_⟩
          have s46 := s4.trans s6
          have nkll : kl ≠ l := fun e => by rw [e, h4] at nkl; cases nkl
          refine ⟨kl, _, rfl, sql hkl, ?_⟩
          refine for_it (walk_enum (xs := (kids c.L i).map fun (k : Nat) => V.int (k : Int))) (fun j σ H7 => ∃ y9 y10, σ = [some (.ref a), some (.ref b), some (.ref d), some (.int ((c.left : Nat) : Int)), some (.ref D), some (.ref pm), some (.ref l), some (.int ((i : Nat) : Int)), some (.ref qr), y9, y10] ∧ Same H2 H7 ∧ H7 kl = some (.lst ((kids c.L i).map fun (k : Nat) => V.int (k : Int))) ∧ SqT K H7 qr (r.part.map fun (n : Nat) => V.int (n : Int)) ∧
              H7 l = some (.lst ((setKids cs ((kids c.L i).take j) (r.part.take j)).map fun (n : Nat) => V.int (n : Int))))
            ⟨_, _, rfl, s46, hkl, same_t s6 hr4, s6 _ _ h4⟩ (fun j σ H7 _ p => ?_) (fun j x σ H7 H8 hj p y => ?_) (fun σ H7 p => ?_)
          · obtain ⟨_, _, _, _, z1, _⟩ := p
            exact sql z1
          · obtain ⟨y9, y10, rfl, s7, hk7, hq7, h7⟩ := p
            obtain ⟨Tp, x1, x2, rfl, nT, rfl, hx1, hx2⟩ := y
            have hx1 : V.int ((j : Nat) : Int) = x1 := Option.some.inj hx1
            subst hx1
            have hx2 : ((kids c.L i).map fun (k : Nat) => V.int (k : Int))[j]? = some x2 := hx2
            rw [List.getElem?_map] at hx2
            obtain ⟨kid, hkid, rfl⟩ := Option.map_eq_some_iff.mp hx2
            have sT : Same H7 (upd H7 Tp (.tup [.int ((j : Nat) : Int), .int ((kid : Nat) : Int)])) := same_new nT
            have hjp : j < r.part.length := by rw [hpl]; exact (List.getElem?_eq_some_iff.mp hkid).1
            have hkk := kids_gt hC.wf (List.mem_of_getElem? hkid)
            refine ⟨Tp, _, rfl, sqt upd_same, rfl, _, _, rfl, _, _, rfl, rfl, ?_⟩
            refine ⟨_, rfl, _, rfl, qr, _, _, .int ((r.part[j] : Nat) : Int), rfl, rfl, same_t sT hq7, atI_nat (by rw [List.getElem?_map, List.getElem?_eq_getElem hjp]; rfl), ?_⟩
            refine ⟨_, rfl, _, rfl, l, _, _, kid, rfl, rfl, sT _ _ h7, ixN_nat (by rw [List.length_map, setKids_len]; omega), ?_⟩
            rw [map_set_int]
            refine ⟨_, _, rfl, keep _ (s7.trans sT) _, by rw [upd_ne nkll]; exact sT _ _ hk7, ?_, ?_⟩
            · exact (tx_upd (by rw [sT _ _ h7]; trivial)).t (same_t sT hq7)
            · rw [upd_same]
              congr 3
              unfold setKids
              rw [List.take_add_one, List.take_add_one, hkid, List.getElem?_eq_getElem hjp, List.zip_append (by rw [List.length_take, List.length_take, hpl]), List.foldl_append]
              rfl
          · obtain ⟨y9, y10, rfl, s7, hk7, hq7, h7⟩ := p
            rw [List.length_map, List.take_length, ← hpl, List.take_length] at h7
            exact ⟨_, _, _, _, rfl, s7, h7⟩
        · obtain ⟨y7, y8, y9, y10, rfl, s4, h4⟩ := p
          exact ⟨_, rfl, q _ _ (s12.trans s4) ⟨l, rfl, nlH, h4⟩⟩
end
end Oa
namespace Oa
open PySem PySem.Spec PyProof.Rows L2 Oat
section
variable {P : Program} {w : World} {K : PySem.W.Frag} {mg : Str → Option Value} {base : Heap}
/-! ### the law's town: a list of a list of ints and a count -/
structure Town (t n : Addr) (H : Hp) : Prop where
  ne : t ≠ n
  ex : ∃ (i : Int) (xs : List Int), H t = some (.lst [.ref n, .int i]) ∧ H n = some (.lst (xs.map V.int)) ∧ xs ≠ []
def TSame (t n : Addr) (H H' : Hp) : Prop := ∀ a o, a ≠ t → a ≠ n → H a = some o → H' a = some o
theorem TSame.refl {t n : Addr} (H : Hp) : TSame t n H H := fun _ _ _ _ e => e
theorem TSame.trans {t n : Addr} {H H1 H2 : Hp} (a : TSame t n H H1) (b : TSame t n H1 H2) : TSame t n H H2 := fun x o h1 h2 e => b x o h1 h2 (a x o h1 h2 e)
theorem tsame_of {t n : Addr} {H H' : Hp} (s : Same H H') : TSame t n H H' := fun a o _ _ e => s a o e
theorem Town.is_l {t n : Addr} {H : Hp} (h : Town t n H) : (∃ l, H t = some (.lst l)) ∧ ∃ l, H n = some (.lst l) := by
  obtain ⟨_, i, xs, h1, h2, _⟩ := h
  exact ⟨⟨_, h1⟩, ⟨_, h2⟩⟩
theorem Town.not_t {t n : Addr} {H : Hp} (h : Town t n H) {a : Addr} {o : HO} (e : H a = some o) (ho : ∀ l, o ≠ .lst l) : a ≠ t ∧ a ≠ n := by
  obtain ⟨⟨l, h1⟩, ⟨m, h2⟩⟩ := h.is_l
  constructor
  · rintro rfl
    rw [h1] at e
    exact ho l (Option.some.inj e).symm
  · rintro rfl
    rw [h2] at e
    exact ho m (Option.some.inj e).symm
theorem Town.fresh {t n : Addr} {H : Hp} (h : Town t n H) {a : Addr} (e : H a = none) : a ≠ t ∧ a ≠ n := by
  obtain ⟨⟨l, h1⟩, ⟨m, h2⟩⟩ := h.is_l
  exact ⟨fun z => (by rw [z, h1] at e; cases e), fun z => (by rw [z, h2] at e; cases e)⟩
theorem Town.same {t n : Addr} {H H' : Hp} (h : Town t n H) (s : Same H H') : Town t n H' := by
  obtain ⟨h0, i, xs, h1, h2, h3⟩ := h
  exact ⟨h0, i, xs, s _ _ h1, s _ _ h2, h3⟩
theorem Town.upd {t n : Addr} {H : Hp} (h : Town t n H) {a : Addr} {o : HO} (h1 : a ≠ t) (h2 : a ≠ n) : Town t n (upd H a o) := by
  obtain ⟨h0, i, xs, e1, e2, h3⟩ := h
  exact ⟨h0, i, xs, by rw [upd_ne h1.symm]; exact e1, by rw [upd_ne h2.symm]; exact e2, h3⟩
theorem Town.t {t n : Addr} {H H' : Hp} (h : Town t n H) (s : TSame t n H H') {a : Addr} {xs : List V} (e : SqT K H a xs) : SqT K H' a xs := by
  rcases e with (e | ⟨o, e⟩) | e
  · have := h.not_t e (fun l z => nomatch z)
    exact .inl (.inl (s _ _ this.1 this.2 e))
  · have := h.not_t e (fun l z => nomatch z)
    exact .inl (.inr ⟨o, s _ _ this.1 this.2 e⟩)
  · exact .inr e
theorem tsame_mut {t n : Addr} {H H' : Hp} {p : Addr} {o : HO} (e : TSame t n H H') (h : H p = none) : TSame t n H (upd H' p o) := fun a u h1 h2 ha => by
  rw [upd_ne (ne_of_none ha h)]
  exact e a u h1 h2 ha
/-! ### _law_town -/
def sp_law_town (K : PySem.W.Frag) : Sp := fun vs H Q _ => ∃ (a : Addr) (ns : List Int), vs = [.ref a] ∧ SqL K H a (ns.map V.int) ∧ ∀ t n H', Town t n H' → Same H H' → Q (.ref t) H'
theorem c__law_town (T : Txt K mg) : Cal P w K mg base CX0 1 "_law_town" ["script"] (sp_law_town K) := by
  refine cal0 T.d__law_town sc__law_town (fun _ _ _ _ _ _ us hl => match us, hl with | [_], _ => rfl) (fun vs H Q E h => ?_) (fun f cdv A outer s H vs Q E hr h => ?_)
  · obtain ⟨a, ns, rfl, _⟩ := h
    rfl
  · obtain ⟨a, ns, rfl, hS, q⟩ := h
    refine ⟨_, (pss_one (ps_ret (pe_lst (pa_cons (pe_ifExp (pt_cmpR (op_neLE K hr.units0) (pv 0) (pe_lst pa_nil) (nomark _)) (pe_callTy (listOf K) rfl T.b_list (by decide +kernel) (pa_cons (pv 0) pa_nil)) (pe_lst (pa_cons pe_int pa_nil))) (pa_cons pe_int pa_nil))))), ?_⟩
    refine ⟨_, rfl, ⟨by show 0 ≤ sizeLine; exact Nat.zero_le _, fun z nz => ?_⟩⟩
    have s1 : Same H (upd H z (.lst [])) := same_new nz
    refine ⟨a, z, _, rfl, rfl, same_l s1 hS, sql upd_same, _, rfl, ?_⟩
    have fin : ∀ (n : Addr) (H2 : Hp) (xs : List Int), Same H H2 → H2 n = some (.lst (xs.map V.int)) → xs ≠ [] → ∀ t, H2 t = none → Q (.ref t) (upd H2 t (.lst [.ref n, .int 0])) := fun n H2 xs s2 hn hx t ht => by
      have hne : t ≠ n := fun z => by rw [z, hn] at ht; cases ht
      exact q t n _ ⟨hne, 0, xs, upd_same, by rw [upd_ne hne.symm]; exact hn, hx⟩ (s2.trans (same_new ht))
    cases ns with
    | nil =>
      refine iteF ⟨by show 1 ≤ sizeLine; decide, fun n hn => ?_⟩
      refine ⟨by show 2 ≤ sizeLine; decide, fun t ht => ?_⟩
      exact fin n _ [0] (s1.trans (same_new hn)) upd_same (by simp) t ht
    | cons x xs =>
      refine iteT ?_
      refine ⟨_, rfl, a, _, rfl, .inl (same_l s1 hS), fun n hn => ?_⟩
      refine ⟨by show 2 ≤ sizeLine; decide, fun t ht => ?_⟩
      exact fin n _ (x :: xs) (s1.trans (same_new hn)) upd_same (by simp) t ht
/-! ### _law_draw -/
def sp_law_draw : Sp := fun vs H Q _ => ∃ t n c, vs = [.ref t, .int ((c : Nat) : Int)] ∧ Town t n H ∧ 1 ≤ c ∧ c < 1073741824 ∧ ∀ (r : Nat) H', r < c → Town t n H' → TSame t n H H' → Q (.int (r : Int)) H'
theorem emod_nat {x : Int} {c : Nat} (h : 1 ≤ c) : ∃ r : Nat, x % (c : Int) = (r : Int) ∧ r < c := by
  have h1 := Int.emod_nonneg x (show (c : Int) ≠ 0 by omega)
  have h2 := Int.emod_lt_of_pos x (show 0 < (c : Int) by omega)
  exact ⟨(x % (c : Int)).toNat, by omega, by omega⟩
theorem c__law_draw (T : Txt K mg) : Cal P w K mg base CX0 1 "_law_draw" ["town", "count"] sp_law_draw := by
  refine cal0 T.d__law_draw sc__law_draw (fun _ _ _ _ _ _ us hl => match us, hl with | [_, _], _ => rfl) (fun vs H Q E h => ?_) (fun f cdv A outer s H vs Q E hr h => ?_)
  · obtain ⟨t, n, c, rfl, _⟩ := h
    rfl
  · obtain ⟨t, n, c, rfl, ⟨hne, i, xs, ht, hn, hx⟩, h1, h2, q⟩ := h
    refine ⟨_, (pss_cons (ps_set (i := 2) sc__law_draw.nd rfl (Or.inl rfl) (pe_ix (ixL K) (pv 0) pe_int (fun _ _ => rfl)))
      (pss_cons (ps_asg (pe_op op_add (pe_ix (ixL K) (pv 0) pe_int (fun _ _ => rfl)) pe_int) (pg_sub (pv 0) pe_int set_list))
      (pss_cons (ps_set (i := 3) sc__law_draw.nd rfl (Or.inl rfl) (pe_op op_mod (pe_ix (ixL K) (pv 0) pe_int (fun _ _ => rfl)) (pe_callB (lenS K) rfl T.b_len PySem.boot_len (pa_cons (pv 2) pa_nil))))
      (pss_cons (ps_set (i := 4) sc__law_draw.nd rfl (Or.inl rfl) (pe_ix (ixL K) (pv 2) (pv 3) (fun _ _ => rfl)))
      (pss_cons (ps_if (pt_cmpR op_ge (pv 4) pe_int (nomark _)) (pss_cons (ps_asg (pe_op op_fdiv (pv 4) (pv 1)) (pg_sub (pv 2) (pv 3) set_list))
      (pss_one (ps_ret (pe_op op_mod (pv 4) (pv 1))))) pss_nil)
      (pss_cons (ps_set (i := 5) sc__law_draw.nd rfl (Or.inl rfl) (pe_op op_mod (pe_op op_add (pv 4) (pe_op op_mul pe_int (pe_ix (ixL K) (pv 0) pe_int (fun _ _ => rfl)))) pe_int))
      (pss_cons (ps_set (i := 5) sc__law_draw.nd rfl (Or.inl rfl) (pe_op op_mod (pe_op op_pow (pv 5) pe_int) pe_int))
      (pss_one (ps_ret (pe_op op_mod (pe_op op_fdiv (pe_op op_mod (pe_op op_add (pe_op op_mul (pe_op op_fdiv (pv 5) pe_int) pe_int) (pv 5)) pe_int) pe_int) (pv 1))))))))))), ?_⟩
    refine ⟨_, rfl, t, _, 0, .ref n, rfl, rfl, sql ht, rfl, ?_⟩
    refine ⟨_, rfl, t, _, 1, .int i, rfl, rfl, sql ht, rfl, _, _, rfl, rfl, ?_⟩
    refine ⟨_, rfl, t, _, 1, 1, rfl, rfl, ht, rfl, ?_⟩
    have ht2 : (upd H t (.lst [.ref n, .int (i + 1)])) t = some (.lst [.ref n, .int (i + 1)]) := upd_same
    have hn2 : (upd H t (.lst [.ref n, .int (i + 1)])) n = some (.lst (xs.map V.int)) := by rw [upd_ne hne.symm]; exact hn
    have s2 : TSame t n H (upd H t (.lst [.ref n, .int (i + 1)])) := fun a o ha _ e => by rw [upd_ne ha]; exact e
    show (tSeq _ _) _ [_, _, _, _, _, _] (upd H t (.lst [.ref n, .int (i + 1)]))
    generalize (upd H t (.lst [.ref n, .int (i + 1)])) = H2 at ht2 hn2 s2
    have hl : 1 ≤ xs.length := by cases xs with | nil => exact absurd rfl hx | cons _ _ => simp
    obtain ⟨r, hr1, hr2⟩ := emod_nat (x := i + 1) hl
    have hlm : (xs.map V.int).length = xs.length := by simp
    refine ⟨_, rfl, t, _, 1, .int (i + 1), rfl, rfl, sql ht2, rfl, _, rfl, n, _, rfl, .inl (sql hn2), _, _, rfl, rfl, by omega, ?_⟩
    dsimp only
    rw [hlm, hr1]
    have hxr : (xs.map V.int)[r]? = some (.int xs[r]) := by rw [List.getElem?_map, List.getElem?_eq_getElem hr2]; rfl
    refine ⟨_, rfl, _, rfl, n, _, _, .int xs[r], rfl, rfl, sql hn2, atI_nat hxr, ?_⟩
    generalize xs[r] = cell
    refine ⟨_, rfl, _, _, rfl, rfl, _, rfl, ite2 (fun c1 => ?_) (fun c1 => ?_)⟩
    · refine ⟨_, rfl, _, rfl, _, _, rfl, rfl, ⟨by omega, by omega⟩, ?_⟩
      refine ⟨_, rfl, _, rfl, n, _, _, r, rfl, rfl, hn2, ixN_nat (by omega), ?_⟩
      refine ⟨_, rfl, _, rfl, _, _, rfl, rfl, by omega, ?_⟩
      obtain ⟨k, hk1, hk2⟩ := emod_nat (x := cell) h1
      dsimp only
      rw [hk1]
      refine q k _ hk2 ⟨hne, i + 1, xs.set r (cell / (c : Int)), by rw [upd_ne hne]; exact ht2, ?_, ?_⟩ (fun a o ha hb e => by rw [upd_ne hb]; exact s2 a o ha hb e)
      · rw [upd_same, List.map_set]
      · intro z
        exact hx (by simpa using z)
    · refine ⟨_, rfl, _, rfl, t, _, 1, .int (i + 1), rfl, rfl, sql ht2, rfl, _, _, rfl, rfl, .inl ⟨by decide, by decide⟩, _, _, rfl, rfl, _, _, rfl, rfl, (by dsimp only; decide), ?_⟩
      obtain ⟨m1, hm1, hm2⟩ := emod_nat (x := cell + 104729 * (i + 1)) (c := 4294967291) (by decide)
      have hm1 : (cell + 104729 * (i + 1)) % 4294967291 = (m1 : Int) := hm1
      dsimp only
      rw [hm1]
      refine ⟨_, rfl, _, _, rfl, rfl, ⟨by decide, by decide, by omega⟩, _, _, rfl, rfl, (by dsimp only; decide), ?_⟩
      obtain ⟨m2, hq1, hq2⟩ := emod_nat (x := (m1 : Int) ^ (5 : Int).toNat) (c := 4294967279) (by decide)
      have hq1 : (m1 : Int) ^ (5 : Int).toNat % 4294967279 = (m2 : Int) := hq1
      dsimp only
      rw [hq1]
      refine ⟨_, rfl, _, _, rfl, rfl, ⟨by decide, by decide⟩, _, _, rfl, rfl, .inr ⟨by decide, by decide⟩, _, rfl, _, _, rfl, rfl, _, _, rfl, rfl, (by dsimp only; decide), _, _, rfl, rfl, ⟨by decide, by decide⟩, _, rfl, _, _, rfl, rfl, by omega, ?_⟩
      obtain ⟨k, hk1, hk2⟩ := emod_nat (x := ((m2 : Int) / 64 * 69621 + m2) % 4294967231 / 8) h1
      dsimp only
      rw [hk1]
      exact q k _ hk2 ⟨hne, i + 1, xs, ht2, hn2, hx⟩ s2
/-! ### _law_pick -/
def sp_law_pick : Sp := fun vs H Q _ => ∃ t n l xs, vs = [.ref t, .ref l] ∧ Town t n H ∧ H l = some (.lst xs) ∧ l ≠ t ∧ l ≠ n ∧ 1 ≤ xs.length ∧ xs.length < 1000 ∧ ∀ x H', x ∈ xs → Town t n H' → TSame t n H H' → Q x H'
/-! ### _law_land -/
def sp_law_land (K : PySem.W.Frag) : Sp := fun vs H Q _ => ∃ t n m, vs = [.ref t, .int ((m + 1 : Nat) : Int)] ∧ Town t n H ∧ m < 1000 ∧ ∀ a L H', L.length = m → WfL L → SqT K H' a (landV L) → Town t n H' → TSame t n H H' → Q (.ref a) H'
theorem wfL_snoc {L : List Nat} {p : Nat} (h : WfL L) (hp : p ≤ L.length) : WfL (L ++ [p]) := by
  intro i hi
  rw [List.length_append, List.length_singleton] at hi
  by_cases e : i < L.length
  · rw [List.getD_eq_getElem?_getD, List.getElem?_append_left e, ← List.getD_eq_getElem?_getD]
    exact h i e
  · have : i = L.length := by omega
    subst this
    rw [List.getD_eq_getElem?_getD, List.getElem?_append_right (Nat.le_refl _), Nat.sub_self]
    exact hp
/-! ### _law_wants -/
def sp_law_wants (K : PySem.W.Frag) : Sp := fun vs H Q _ => ∃ t n m o, vs = [.ref t, .int ((m : Nat) : Int), .int ((o : Nat) : Int)] ∧ Town t n H ∧ m < 1000 ∧ 3 ≤ o ∧ o ≤ 999 ∧ ∀ a W H', W.length = m → (∀ u, some u ∈ W → u ≤ o) → SqT K H' a (wantsV W) → Town t n H' → TSame t n H H' → Q (.ref a) H'
/-! ### _law_works -/
def sp_law_works (K : PySem.W.Frag) : Sp := fun vs H Q _ => ∃ t n, vs = [.ref t] ∧ Town t n H ∧ ∀ b carts room H', 1 ≤ carts → carts ≤ 3 → 2 ≤ room → room ≤ 9 → SqT K H' b (worksV carts room) → Town t n H' → TSame t n H H' → Q (.ref b) H'
/-! ### _law_case -/
def sp_law_case (K : PySem.W.Frag) : Sp := fun vs H Q _ => ∃ t n m o, vs = [.ref t, .int ((m + 1 : Nat) : Int), .int ((o : Nat) : Int)] ∧ Town t n H ∧ m < 30 ∧ 3 ≤ o ∧ o ≤ 999 ∧
  ∀ p a b d c carts H', SqT K H' p [.ref a, .ref b, .ref d, .int ((c.left : Nat) : Int)] → CaseAt K H' a b d c carts → c.L.length = m → carts ≤ 3 → c.room ≤ 9 → (∀ u, some u ∈ c.W → u ≤ o) → Town t n H' → TSame t n H H' → Q (.ref p) H'
end
end Oa
namespace Oa
open PySem PySem.Spec PyProof.Rows L2 Oat
section
variable {P : Program} {w : World} {K : PySem.W.Frag} {mg : Str → Option Value} {base : Heap}
/-! ### _law_after -/
/-! ### _law_is_wanted -/
def sp_law_is_wanted (K : PySem.W.Frag) (m : Nat) : Sp := fun vs H Q _ => ∃ a L d W p, vs = [.ref a, .ref d, .int ((p : Nat) : Int)] ∧ SqT K H a (landV L) ∧ SqT K H d (wantsV W) ∧ WfL L ∧ L.length < 30 ∧ W.length = L.length + 1 ∧ p ≤ L.length ∧ L.length < m + p ∧ ∀ H', Same H H' → Q (.bl (wanted L W p)) H'
theorem wants_at {W : List (Option Nat)} {p : Nat} (h : p < W.length) : (wantsV W)[p]? = some (optV (W.getD p none)) := by
  unfold wantsV
  rw [List.getElem?_map, List.getElem?_eq_getElem h, List.getD_eq_getElem?_getD, List.getElem?_eq_getElem h]
  rfl
theorem filter_any {α : Type} (l : List α) (d : α) (f : α → Bool) : ((List.range l.length).filter fun i => f (l.getD i d)).isEmpty = !l.any f := by
  rw [Bool.eq_iff_iff]
  simp only [List.isEmpty_iff, List.filter_eq_nil_iff, List.mem_range, Bool.not_eq_true', List.any_eq_false]
  constructor
  · intro h x hx
    obtain ⟨i, hi⟩ := List.getElem?_of_mem hx
    have hl := (List.getElem?_eq_some_iff.mp hi).1
    have := h i hl
    rw [List.getD_eq_getElem?_getD, hi] at this
    exact this
  · intro h i hi
    have := h l[i] (List.getElem_mem hi)
    rw [List.getD_eq_getElem?_getD, List.getElem?_eq_getElem hi]
    exact this
/-! ### _law_out -/
def sp_law_out (K : PySem.W.Frag) : Sp := fun vs H Q _ => ∃ b carts room need e, vs = [.ref b, .int need, .int ((e : Nat) : Int)] ∧ SqT K H b (worksV carts room) ∧ 2 ≤ room ∧ room ≤ 21 ∧ e ≤ 6 ∧ Q (oiV (outF room need e)) H
theorem outF_least {room e : Nat} {need o : Int} (hr : 3 ≤ room) (h1 : ((max e 1 : Nat) : Int) ≤ o) (h2 : need ≤ o * ((room : Int) - 2) + e) (h3 : o = ((max e 1 : Nat) : Int) ∨ (o - 1) * ((room : Int) - 2) + e < need) : outF room need e = some o := by
  have hp : (0 : Int) < (room : Int) - 2 := by omega
  have hm : ((max e 1 : Nat) : Int) * ((room : Int) - 2) ≤ o * ((room : Int) - 2) := Int.mul_le_mul_of_nonneg_right h1 (by omega)
  unfold outF
  rcases h3 with h3 | h3
  · rw [← h3, if_pos h2]
  · by_cases c : need ≤ ((max e 1 : Nat) : Int) * ((room : Int) - 2) + e
    · have : ¬ ((max e 1 : Nat) : Int) ≤ o - 1 := fun z => by
        have := Int.mul_le_mul_of_nonneg_right z (show (0 : Int) ≤ (room : Int) - 2 by omega)
        omega
      rw [if_pos c]
      congr 1
      omega
    · rw [if_neg c, if_neg (by omega)]
      congr 1
      have a1 : (-o) * ((room : Int) - 2) ≤ (e : Int) - need := by rw [Int.neg_mul]; omega
      have a2 : (e : Int) - need < (-o + 1) * ((room : Int) - 2) := by
        have : (-o + 1) * ((room : Int) - 2) = -((o - 1) * ((room : Int) - 2)) := by rw [← Int.neg_mul]; congr 1; omega
        omega
      have b1 := (Int.le_ediv_iff_mul_le hp).mpr a1
      have b2 := Int.ediv_lt_of_lt_mul hp a2
      omega
end
end Oa
namespace Oat
theorem range_getD {α : Type} (l : List α) (d : α) : (List.range l.length).map (fun i => l.getD i d) = l := by
  apply List.ext_getElem?
  intro i
  rw [List.getElem?_map]
  by_cases h : i < l.length
  · rw [List.getElem?_range h, List.getElem?_eq_getElem h]
    simp [h]
  · rw [List.getElem?_eq_none (by simpa using h), List.getElem?_eq_none (by omega)]
    rfl
theorem range_filter {α β : Type} (l : List α) (d : α) (g : α → Bool) (h : α → β) : ((List.range l.length).filter fun i => g (l.getD i d)).map (fun i => h (l.getD i d)) = (l.filter g).map h := by
  have e := congrArg (fun x => (List.filter g x).map h) (range_getD l d)
  rw [← e]
  simp only [List.filter_map, List.map_map]
  rfl
theorem foldl_addRow {left used : Nat} {u : Int × List Nat} : ∀ (tb : List (Nat × Int)) (acc : Fnd), (tb.filter fun e => decide (e.1 + used ≤ left)).foldl (addRow left used u) acc = tb.foldl (addRow left used u) acc
  | [], _ => rfl
  | e :: tb, acc => by
    by_cases c : e.1 + used ≤ left
    · rw [List.filter_cons_of_pos (by simpa using c), List.foldl_cons, List.foldl_cons, foldl_addRow tb]
    · rw [List.filter_cons_of_neg (by simpa using c), List.foldl_cons, foldl_addRow tb]
      congr 1
      unfold addRow
      rw [if_neg (by omega)]
theorem dput_self {α : Type} : ∀ {F : List (Nat × α)} {k : Nat} {a : α}, dget F k = some a → dput F k a = F
  | (j, u) :: r, k, a, h => by
    simp only [dget] at h
    simp only [dput]
    split at h
    · rename_i e
      rw [if_pos e, Option.some.inj h]
    · rename_i e
      rw [if_neg e, dput_self h]
end Oat
namespace Oa
open PySem PySem.Spec PyProof.Rows L2 Oat
section
variable {P : Program} {w : World} {K : PySem.W.Frag} {mg : Str → Option Value} {base : Heap}
def sp_law_best (K : PySem.W.Frag) : Sp := fun vs H Q _ => ∃ t xs ts left, vs = [.ref t, .int ((left : Nat) : Int)] ∧ SqL K H t xs ∧ Paired (TakAt K H) xs ts ∧ (∀ tb ∈ ts, (tb.map (·.1)).Nodup ∧ tb.length ≤ 1000) ∧ ts.length ≤ 30 ∧ left ≤ 6 ∧
  ∀ v H', Same H H' → bestV K H' (best ts left) v → Q v H'
end
end Oa
namespace Oa
open PySem PySem.Spec PyProof.Rows L2 Oat
section
variable {P : Program} {w : World} {K : PySem.W.Frag} {mg : Str → Option Value} {base : Heap}
/-! ### _law_table -/
def LRowAt (K : PySem.W.Frag) (H : Hp) (v : V) (r : TRow) : Prop := ∃ p q, v = .ref p ∧ SqT K H p [.int r.tk, .int r.out, .ref q] ∧ SqT K H q (r.part.map fun (n : Nat) => V.int (n : Int))
theorem LRowAt.tx {H H' : Hp} {v : V} {r : TRow} (h : LRowAt K H v r) (x : TExt H H') : LRowAt K H' v r := by
  obtain ⟨p, q, e, h1, h2⟩ := h
  exact ⟨p, q, e, x.t h1, x.t h2⟩
theorem LRowAt.head {H : Hp} {v : V} {r : TRow} (h : LRowAt K H v r) : HeadAt K H v r.tk := by
  obtain ⟨p, q, e, h1, _⟩ := h
  exact ⟨p, _, e, h1⟩
def LTabAt (K : PySem.W.Frag) (H : Hp) (v : V) (t : Tab) : Prop := ∃ d kvs, v = .ref d ∧ H d = some (.dK kvs) ∧ PairD (LRowAt K H) kvs t
theorem LTabAt.same {H H' : Hp} {v : V} {t : Tab} (h : LTabAt K H v t) (s : Same H H') : LTabAt K H' v t := by
  obtain ⟨d, kvs, e, hd, hp⟩ := h
  exact ⟨d, kvs, e, s _ _ hd, pd_imp hp fun _ _ q => q.tx (same_tx s)⟩
theorem tx_sb {H H' : Hp} {D : Addr} {l : List V} (hl : H D = some (.lst l)) (sb : SameBut D H H') : TExt H H' := fun a xs z => by
  have hne : a ≠ D := by
    rintro rfl
    rcases z with z | ⟨ob, z⟩
    · rw [hl] at z
      cases z
    · rw [hl] at z
      cases z
  rcases z with z | ⟨ob, z⟩
  · exact .inl (sb _ _ hne z)
  · exact .inr ⟨ob, sb _ _ hne z⟩
theorem LTabAt.sb {H H' : Hp} {D : Addr} {l : List V} {v : V} {t : Tab} (h : LTabAt K H v t) (hl : H D = some (.lst l)) (sb : SameBut D H H') : LTabAt K H' v t := by
  obtain ⟨d, kvs, e, hd, hp⟩ := h
  exact ⟨d, kvs, e, sb _ _ (ne_of hd hl (fun z => nomatch z)) hd, pd_imp hp fun _ _ q => q.tx (tx_sb hl sb)⟩
theorem pd_lheads {H : Hp} : ∀ {kvs : List (Key × V)} {t : Tab}, PairD (LRowAt K H) kvs t → PairD (HeadAt K H) kvs (takes t)
  | _, _, .nil => .nil
  | _, _, .cons a b => .cons ⟨a.1, a.2.head⟩ (pd_lheads b)
theorem LTabAt.tak {H : Hp} {v : V} {t : Tab} (h : LTabAt K H v t) : TakAt K H v (takes t) := by
  obtain ⟨d, kvs, e, hd, hp⟩ := h
  exact ⟨d, kvs, e, hd, pd_lheads hp⟩
def sp_law_table (K : PySem.W.Frag) (m : Nat) : Sp := fun vs H Q _ => ∃ a b d c carts p, vs = [.ref a, .ref b, .ref d, .int ((p : Nat) : Int), .int ((c.left : Nat) : Int)] ∧ CaseAt K H a b d c carts ∧ p ≤ c.L.length ∧ c.L.length < m + p ∧
  ∀ v H', Same H H' → LTabAt K H' v (tab c p) → Q v H'
theorem paired_map {α β γ : Type} {R : α → β → Prop} {S : α → γ → Prop} {f : β → γ} (h : ∀ x y, R x y → S x (f y)) : ∀ {xs : List α} {ys : List β}, Paired R xs ys → Paired S xs (ys.map f)
  | _, _, .nil => .nil
  | _, _, .cons a b => .cons (h _ _ a) (paired_map h b)
end
end Oa
namespace Oa
open PySem PySem.Spec PyProof.Rows L2 Oat
section
variable {P : Program} {w : World} {K : PySem.W.Frag} {mg : Str → Option Value} {base : Heap}
/-! ### _law_least -/
theorem least_min {c : Case} {m : Int} (h1 : m ∈ (takes (tab c 0)).map (·.2)) (h2 : ∀ y ∈ (takes (tab c 0)).map (·.2), m ≤ y) : least c = some m := by
  unfold least
  have hne : takes (tab c 0) ≠ [] := fun z => by rw [z] at h1; cases h1
  obtain ⟨n, e, hn, hm⟩ := bestL_some hne
  rw [e]
  show some n.1 = some m
  congr 1
  obtain ⟨x, hx, rfl⟩ := List.mem_map.mp h1
  have a := plt_no.mp (hm x hx)
  have b := h2 n.1 (List.mem_map.mpr ⟨(n.2, n.1), hn, rfl⟩)
  dsimp only at a b
  omega
/-! ### blocked -/
def blockedL (c : Case) : List Nat := (List.range (c.L.length + 1)).filter fun k => (tab c k).isEmpty && (kids c.L k).all fun q => !(tab c q).isEmpty
def sp_blocked (K : PySem.W.Frag) : Sp := fun vs H Q _ => ∃ a b d c carts, vs = [.ref a, .ref b, .ref d, .int ((c.left : Nat) : Int)] ∧ CaseAt K H a b d c carts ∧ c.room ≤ 20 ∧ ∀ l H', Same H H' → H' l = some (.lst ((blockedL c).map fun (k : Nat) => V.int (k : Int))) → Q (.ref l) H'
theorem pd_empty {α : Type} {R : V → α → Prop} {kvs : List (Key × V)} {F : List (Nat × α)} (h : PairD R kvs F) : kvs.isEmpty = F.isEmpty := by
  cases h <;> rfl
theorem c_blocked (T : Txt K mg) : CalK P w K mg base CX0 5 "blocked" ["land", "works", "wants", "left"] 3 "left" (.int 0) (sp_blocked K) := by
  refine calK T.d_blocked sc_blocked rfl (fun _ _ _ _ _ _ us ws h1 h2 => match us, ws, h1, h2 with | [_, _, _], [_], _, _ => rfl) (fun _ _ _ _ _ _ us ws h1 h2 => match us, ws, h1, h2 with | [_, _, _], [_], _, _ => ⟨_, _, _, _, _, _, rfl, rfl, rfl⟩) (fun vs H Q E h => ?_) (fun f cdv A outer s H vs Q E hr h => ?_)
  · obtain ⟨a, b, d, c, carts, rfl, _⟩ := h
    rfl
  · obtain ⟨a, b, d, c, carts, rfl, hC, h20, q⟩ := h
    refine ⟨_, (pss_cons (ps_expr (pcall (c_look_case T) (hr.mono (by omega)) (pa_cons (pv 0) (pa_cons (pv 1) (pa_cons (pv 2) (pa_cons (pv 3) pa_nil))))))
      (pss_cons (ps_set (i := 4) sc_blocked.nd rfl (Or.inr rfl) (pcall (c_tables_of T) (hr.mono (by omega)) (pa_cons (pv 0) (pa_cons (pv 1) (pa_cons (pv 2) (pa_cons (pv 3) pa_nil))))))
      (pss_one (ps_ret (pe_lc (own := [("k", 5)]) (g := gName 5) rfl sc_blocked.nd (pi_range1 rfl T.b_range (pa_cons (pe_callB (lenS K) rfl T.b_len PySem.boot_len (pa_cons (pv 0) pa_nil)) pa_nil)) (blkOk_by (own := [("k", 5)]) (N := ["land", "works", "wants", "left", "tables", "k", "one"]) (sc := (defScope s_blocked)) (by decide +kernel)) (fun _ _ _ _ _ => pg_name (i := 5) sc_blocked.nd rfl (Or.inl rfl)) (fun _ _ _ _ _ => pts_one (PW.pt (pw_and (pt_cmpR (op_eqE hr.units0) (pe_ix (ixL K) (pv 4) (pv 5) (fun _ _ => rfl)) pe_dnewK (nomark _)) (pw_and1 (pt_val (pe_callB (allL K rfl) rfl T.b_all (by decide +kernel) (pa_cons (pe_lc (own := [("one", 6)]) (g := gName 6) rfl sc_blocked.nd (piL K (pcall (c_beyond T) (hr.mono (by omega)) (pa_cons (pv 0) (pa_cons (pv 5) pa_nil)))) (blkOk_by (own := [("one", 6)]) (N := ["land", "works", "wants", "left", "tables", "k", "one"]) (sc := _) (by kernel_rfl)) (fun _ _ _ _ _ => pg_name (i := 6) sc_blocked.nd rfl (Or.inl rfl)) (fun _ _ _ _ _ => pts_nil) (fun _ _ _ _ _ => (pe_cmpR (op_neE hr.units0) (pe_ix (ixL K) (pv 4) (pv 6) (fun _ _ => rfl)) pe_dnewK (nomark _)))) pa_nil))))))) (fun _ _ _ _ _ => (pv 5))))))), ?_⟩
    have hn := hC.n
    have el : (landV c.L).length = c.L.length + 1 := landV_len c.L
    refine ⟨_, rfl, _, rfl, _, rfl, _, rfl, a, b, d, c, carts, rfl, hC, h20, fun H1 s1 => ?_⟩
    refine ⟨_, rfl, _, rfl, _, rfl, _, rfl, a, b, d, c, carts, rfl, hC.same s1, fun D ds H2 nD s2 hl hf tb => ?_⟩
    have s02 := s1.trans s2
    refine ⟨_, rfl, a, _, rfl, .inr (same_t s02 hC.l), _, rfl, by omega, by omega, fun B hB => ?_⟩
    rw [el, show (((c.L.length + 1 : Nat) : Int)).toNat = c.L.length + 1 by omega]
    refine lc_rel walk_range hB (by omega) (fun _ _ => trivial) (fun k => (tab c k).isEmpty && (kids c.L k).all fun q => !(tab c q).isEmpty) (fun i v _ => v = .int ((i : Nat) : Int)) (fun _ _ _ _ _ _ _ h => h) (fun i x H3 H4 l hi s3 hy y => ?_) (fun ys H3 s3 hy hp => ?_)
    · obtain ⟨rfl, rfl⟩ := y
      dsimp only
      rw [Int.zero_add]
      refine ⟨Same.refl _, rfl, fun Q' q' => ?_, fun _ H5 _ Q' q' => ⟨_, rfl, q' _ H5 (Same.refl _) rfl⟩⟩
      have hid : i < ds.length := by omega
      have tb4 := tb.same s3
      obtain ⟨kv, hz, pz⟩ := tb4.at_ i ds[i] (List.getElem?_eq_getElem hid)
      refine ⟨_, rfl, _, rfl, D, _, _, .ref ds[i], rfl, rfl, sql tb4.l, atI_nat (by rw [List.getElem?_map, List.getElem?_eq_getElem hid]; rfl), fun e0 ne0 => ?_⟩
      have s5 : Same H4 (upd H4 e0 (.dK [])) := same_new ne0
      refine ⟨ds[i], e0, kv, rfl, rfl, s5 _ _ hz, upd_same, _, rfl, ?_⟩
      rw [pd_empty pz]
      have tb5 := tb4.same s5
      have s25 := s3.trans s5
      generalize (upd H4 e0 (.dK [])) = H5 at s5 tb5 s25
      cases he : (tab c i).isEmpty with
      | false =>
        rw [he] at q'
        exact iteF (q' _ s5)
      | true =>
        rw [he] at q'
        refine iteT ?_
        refine ⟨_, rfl, _, rfl, a, c.L, i, rfl, same_t (s02.trans s25) hC.l, hn, fun kl H6 nkl s6 hkl => ?_⟩
        refine ⟨kl, rfl, ⟨_, sql hkl⟩, fun B2 hB2 => ?_⟩
        refine lc_rel (walk_list (xs := (kids c.L i).map fun (k : Nat) => V.int (k : Int))) hB2 (by rw [List.length_map]; have := kids_len c.L i; omega) (fun H' s => sql (s _ _ hkl)) (fun _ => true)
          (fun j v _ => ∃ q, (kids c.L i)[j]? = some q ∧ v = .bl (!(tab c q).isEmpty)) (fun _ _ _ _ _ _ _ h => h) (fun j x H7 H8 l2 hj s7 hy2 y => ?_) (fun ys H7 s7 hy2 hp => ?_)
        · obtain ⟨rfl, hx⟩ := y
          rw [List.getElem?_map] at hx
          obtain ⟨k, hk, rfl⟩ := Option.map_eq_some_iff.mp hx
          have hkk := kids_gt hC.wf (List.mem_of_getElem? hk)
          have hkd : k < ds.length := by omega
          refine ⟨Same.refl _, rfl, fun Q2 q2 => q2 H8 (Same.refl _), fun _ H9 s9 Q2 q2 => ?_⟩
          have tb9 := tb5.same (s6.trans (s7.trans s9))
          obtain ⟨kv2, hz2, pz2⟩ := tb9.at_ k ds[k] (List.getElem?_eq_getElem hkd)
          refine ⟨_, rfl, _, rfl, D, _, _, .ref ds[k], rfl, rfl, sql tb9.l, atI_nat (by rw [List.getElem?_map, List.getElem?_eq_getElem hkd]; rfl), fun e1 ne1 => ?_⟩
          refine ⟨ds[k], e1, kv2, rfl, rfl, (same_new ne1) _ _ hz2, upd_same, ?_⟩
          rw [pd_empty pz2]
          exact q2 _ _ (same_new ne1) ⟨k, hk, rfl⟩
        · have hys : Paired (fun v q => v = .bl (!(tab c q).isEmpty)) ys (kids c.L i) := by
            rw [show (List.range ((kids c.L i).map fun (k : Nat) => V.int (k : Int)).length).filter (fun _ => true) = List.range (kids c.L i).length by simp] at hp
            exact turns_items (Rr := fun v q => v = .bl (!(tab c q).isEmpty)) hp
          have eys : ys = ((kids c.L i).map fun q => !(tab c q).isEmpty).map V.bl := by
            have : ∀ {ys : List V} {l : List Nat}, Paired (fun v q => v = .bl (!(tab c q).isEmpty)) ys l → ys = (l.map fun q => !(tab c q).isEmpty).map V.bl := by
              intro ys l h
              induction h with
              | nil => rfl
              | cons a b ih => rw [a, ih]; rfl
            exact this hys
          refine ⟨B2, _, rfl, sql (by rw [hy2, eys]), _, rfl, ?_⟩
          have ea : (((kids c.L i).map fun q => !(tab c q).isEmpty).all id) = (kids c.L i).all fun q => !(tab c q).isEmpty := by rw [List.all_map]; rfl
          rw [ea]
          exact q' _ (s5.trans (s6.trans s7))
    · have e4 := paired_vals (g := fun i => V.int ((i : Nat) : Int)) (fun _ _ h => h) hp
      refine q B H3 (s02.trans s3) ?_
      rw [hy, e4]
      rfl
end
end Oa
namespace Oa
open PySem PySem.Spec PyProof.Rows L2 Oat
/-! ### list.count, list.index of flat items -/
section
variable {X : Cx}
def rCountF (K : PySem.W.Frag) : V → List V → Hp → VK → Prop := fun x xs H Q => ∃ (a : Addr) (ys : List V) (y : V), x = V.ref a ∧ xs = [y] ∧ SqL K H a ys ∧ flatV y = true ∧ ys.all flatV = true ∧ Q (.int ((ys.countP fun z => eqV z y : Nat) : Int)) H
theorem countP_vals {y : V} : ∀ {ys : List V} {its : List Value}, Vals ys its → ys.all flatV = true → its.countP (eqU y) = ys.countP fun z => eqV z y
  | _, _, .nil, _ => rfl
  | z :: ys, u :: its, .cons r t, f => by
    have f := Bool.and_eq_true_iff.mp (by simpa only [List.all_cons] using f)
    rw [List.countP_cons, List.countP_cons, countP_vals t f.2, eqU_of r f.1]
theorem mt_countF (K : PySem.W.Frag) (h : X.K = K := by rfl) : MtR X "list.count" (rCountF K) := by
  subst h
  intro pins s σ H x xs v us Q I rx rxs h
  obtain ⟨a, ys, y, rfl, rfl, hs, fy, fys, q⟩ := h
  cases rx
  cases rxs with
  | cons ry rt =>
    rename_i uy ut
    cases rt
    obtain ⟨its, rv, ⟨⟨cls, dd, data, sl⟩, n, ho, hc, hdn, hd⟩, hlen⟩ := I.list hs
    simp only at hc hd
    subst hc hd
    refine call_meets PySem.F.slot_list_count ⟨_, ho, rfl⟩ PySem.F.entry_list_count (PySem.F.args_list_count_2 _ _)
      (SeqAt.list_countAt a its.toArray n dd sl uy (eqU y)) ⟨ho, fun u' hu' => mem_eqAt ry fy rv fys u' (by simpa using hu'), ?_⟩
    refine ⟨.int ((ys.countP fun z => eqV z y : Nat) : Int), H, I.tok _, ⟨s.toks, ?_⟩, q⟩
    show Value.int ((its.toArray.toList.countP (eqU y) : Nat) : Int) s.toks = _
    rw [show its.toArray.toList = its from rfl, countP_vals rv fys]
theorem mt_indexK (K : PySem.W.Frag) (h : X.K = K := by rfl) : MtR X "list.index" (rIndex K) := by subst h; exact mt_index
end
/-! ### calls that may raise, wished for at the slots -/
def tCallNS (n m : Nat) (sp : Sp) (gV : List V → List V → List V) (E : L2.St → XK) (t tk : TA) : TE := fun σ H Q => t σ H fun vs H1 => tk σ H1 fun zs H2 => vs.length = n ∧ zs.length = m ∧ sp (gV vs zs) H2 Q (E σ)
section
variable {X : Cx} {CX : CXT} {k n : Nat} {f : Addr} {fd : FuncData} {ps ks : List Str} {sp : Sp} {E : L2.St → XK} {x : Str} {p pos : Pos} {e : Expr} {es : List Expr} {kws : List Keyword} {t tk : TA} {g : List Value → List Value → List Value} {gV : List V → List V → List V}
theorem run_fnNS {pins : List (Addr × Obj)} {σ : L2.St} {H : Hp} {s : Shared} {Q : VK} {us ws : List Value} {vs zs : List V} (F : FnOk X.prog X.w X.K X.mg X.base CX k f fd ps sp) (hr : Room k X.A) (hb : KBn X.K fd ps n ks g gV) (hx : PassesAt CX X σ (E σ))
    (I : Inv X pins σ H s) (r : Vals vs us) (rz : Vals zs ws) (l1 : vs.length = n) (l2 : zs.length = ks.length) (h : sp (gV vs zs) H Q (E σ)) : wpAny (model X.prog X.w) X.A (call (.ref f) us (ks.zip ws)) (EP X pins σ Q) X.xe s := by
  have r2 := hb.rel r rz
  refine wpAny_call (codeAny_mono (F.run X.A X.stack s H ⟨us, ks.zip ws⟩ (g us ws) (gV vs zs) Q (E σ) hr I.env0 (hb.to s us ws I.kIn (r.length.symm.trans l1) (rz.length.symm.trans l2)) r2 h) fun r s' hq => ?_)
  cases r with
  | error e => exact hx pins H s e s' I hq
  | ok fl =>
    cases fl with
    | ret u => exact I.after hq
    | next => exact False.elim hq
    | brk => exact False.elim hq
    | cont => exact False.elim hq
end
section
variable {X : Cx} {CX : CXT} {k n : Nat} {x kw : Str} {dv : V} {ps : List Str} {sp : Sp} {e ek : Expr} {es : List Expr} {t : TA} {te : TE} {p pos kpos : Pos} {E : L2.St → XK}
/-- f(e, .., kw = v), what is raised wished for at the slots -/
theorem pcallKS (c : CalK X.prog X.w X.K X.mg X.base CX k x ps n kw dv sp) (hr : Room k X.A) (hx : ∀ σ, PassesAt CX X σ (E σ)) (ha : PA X (e :: es) t) (hk : PE X ek te) (hg : Gl X x := by rfl)
    (hall : (backToKw pos (keywordEach [⟨some kw, ek, kpos⟩] X.env)).all (·.1.isSome) = true := by rfl) (hks : (backToKw pos (keywordEach [⟨some kw, ek, kpos⟩] X.env)).filterMap (·.1) = [kw] := by rfl)
    (hdb : (x == ("__debug__" : Str)) = false := by decide) (he : starEach (e :: es) X.env = (false, eval e X.env) :: starEach es X.env := by rfl)
    (hpl : ((backTo pos (starEach (e :: es) X.env)).any (·.1) || (backToKw pos (keywordEach [⟨some kw, ek, kpos⟩] X.env)).any (·.1.isNone)) = false := by rfl) :
    PE X (.Call (.Name x p) (e :: es) [⟨some kw, ek, kpos⟩] pos) (tCallNS n 1 sp (fun vs zs => vs ++ zs) E t (tCons te tNil)) := by
  obtain ⟨f, fd, hm, hkp, hb, _, F⟩ := c
  refine ⟨fun pins s σ H Q I h => ?_⟩
  refine wpAny_Call_Name_kw (ld_glob I hg hm ?_ hdb)
  refine PySem.W.callWith_KW (h₀ := X.base) I.ok.mod.kin hkp hall (thn (ha.run pos pins s σ H _ I h) fun us s1 ⟨vs, H1, I1, r, q⟩ => ?_) hpl he
  refine thn ((pk_cons hk pk_nil).run pos pins s1 σ H1 _ I1 q) fun ws s2 ⟨zs, H2, I2, rz, l1, l2, q2⟩ => ⟨I2.kIn, ?_⟩
  rw [hks]
  exact run_fnNS F hr hb (hx σ) I2 r rz l1 l2 q2
/-- f(e, ..), kw left out -/
theorem pcallDS (c : CalK X.prog X.w X.K X.mg X.base CX k x ps n kw dv sp) (hr : Room k X.A) (hx : ∀ σ, PassesAt CX X σ (E σ)) (ha : PA X (e :: es) t) (hg : Gl X x := by rfl)
    (hdb : (x == ("__debug__" : Str)) = false := by decide) (he : starEach (e :: es) X.env = (false, eval e X.env) :: starEach es X.env := by rfl) (hpl : (backTo pos (starEach es X.env)).any (·.1) = false := by rfl) :
    PE X (.Call (.Name x p) (e :: es) [] pos) (tCallSD sp [dv] E t) := by
  obtain ⟨f, fd, g, kp, _, ⟨ds, hv, b⟩, F⟩ := c
  exact pe_callSD F hr hg g kp b hv hx ha hdb he hpl
/-- f(e, ..) -/
theorem pcallS (c : Cal X.prog X.w X.K X.mg X.base CX k x ps sp) (hr : Room k X.A) (hx : ∀ σ, PassesAt CX X σ (E σ)) (ha : PA X (e :: es) t) (hg : Gl X x := by rfl)
    (hdb : (x == ("__debug__" : Str)) = false := by decide) (he : starEach (e :: es) X.env = (false, eval e X.env) :: starEach es X.env := by rfl) (hpl : (backTo pos (starEach es X.env)).any (·.1) = false := by rfl) :
    PE X (.Call (.Name x p) (e :: es) [] pos) (tCallS sp E t) := by
  obtain ⟨f, fd, g, kp, b, F⟩ := c
  exact pe_callS F hr hg g kp b hx ha hdb he hpl
end
theorem takesNo {X : Cx} : Takes X (fun _ _ _ _ => False) := fun u s' ⟨a, B, sI, pins, σ, H, cls, d, e, I, nb, up, sky, na, os, ag, w⟩ => w.elim
/-! ### the errors -/
def errN : List Str := ["BadLand", "BadWorks", "BadWants", "BadPlan", "BadPaper", "BadText", "NoneSuch"]
def mroVE : List Value := [.type "ValueError", .type "Exception", .type "BaseException", .type "object"]
structure ErrOk (K : PySem.W.Frag) (mg : Str → Option Value) (x : Str) : Prop where
  g : mg x = some (.ref (He.ga K x))
  kp : PySem.W.keepIn K (.ref (He.ga K x)) = true
  sb : PySem.W.subIn K (.ref (He.ga K x)) (.type "BaseException") = some true
  ty : PySem.W.typeIn K (.ref (He.ga K x)) = some (.type "type")
  ec : ExcC K (He.ga K x)
  xo : PySem.W.exmOne K (.ref (He.ga K x)) (.ref (He.ga K "OatError")) = some true
  kv : PySem.W.kitOne K (.ref (He.ga K x)) (.type "ValueError") = some true
  ko : PySem.W.kitOne K (.ref (He.ga K x)) (.ref (He.ga K "OatError")) = some true
structure Errs (K : PySem.W.Frag) (mg : Str → Option Value) : Prop where
  oat : mg "OatError" = some (.ref (He.ga K "OatError"))
  ok : ∀ x ∈ errN, ErrOk K mg x
  own : ∀ x ∈ errN, x ≠ "BadPlan" → PySem.W.excIn K (He.ga K x) mroVE "ValueError.__new__" = true
  sep : ∀ x ∈ errN, ∀ y ∈ errN, PySem.W.kitOne K (.ref (He.ga K x)) (.ref (He.ga K y)) = some (decide (x = y))
def errOkB (K : PySem.W.Frag) (x : Str) : Bool :=
  PySem.W.keepIn K (.ref (He.ga K x)) && (decide (PySem.W.subIn K (.ref (He.ga K x)) (.type "BaseException") = some true) && (decide (PySem.W.typeIn K (.ref (He.ga K x)) = some (.type "type")) &&
  (decide (PySem.W.findIn K (.ref (He.ga K x)) "__getattribute__" = some (some (.builtin "BaseException.__getattribute__"))) && (decide (PySem.W.findIn K (.ref (He.ga K x)) "__getattr__" = some none) && (PySem.W.hasDictIn K (He.ga K x) &&
  (decide (PySem.W.findIn K (.ref (He.ga K x)) "__class__" = some (some (.builtin "object.__class__"))) && (decide (PySem.W.specialIn K (.builtin "object.__class__") "__get__" = some (some (.builtin "getset_descriptor.__get__"))) &&
  (decide (PySem.W.takesIn K (.builtin "object.__class__") = some true) && (decide (PySem.W.mroIn K (He.ga K x) (.type "object") = some true) && (decide (PySem.W.exmOne K (.ref (He.ga K x)) (.ref (He.ga K "OatError")) = some true) &&
  (decide (PySem.W.kitOne K (.ref (He.ga K x)) (.type "ValueError") = some true) && decide (PySem.W.kitOne K (.ref (He.ga K x)) (.ref (He.ga K "OatError")) = some true))))))))))))
def errsB (K : PySem.W.Frag) : Bool := errN.all (fun x => errOkB K x && ((decide (x = "BadPlan") || PySem.W.excIn K (He.ga K x) mroVE "ValueError.__new__") && errN.all fun y => decide (PySem.W.kitOne K (.ref (He.ga K x)) (.ref (He.ga K y)) = some (decide (x = y)))))
theorem errs_of {K : PySem.W.Frag} {mg : Str → Option Value} (h : errsB K = true) (g : ∀ x ∈ errN, mg x = some (.ref (He.ga K x))) (go : mg "OatError" = some (.ref (He.ga K "OatError"))) : Errs K mg := by
  have key : ∀ x ∈ errN, errOkB K x = true ∧ (x ≠ "BadPlan" → PySem.W.excIn K (He.ga K x) mroVE "ValueError.__new__" = true) ∧ ∀ y ∈ errN, PySem.W.kitOne K (.ref (He.ga K x)) (.ref (He.ga K y)) = some (decide (x = y)) := fun x hx => by
    have := List.all_eq_true.mp h x hx
    obtain ⟨h1, h2⟩ := He.ba this
    obtain ⟨h2, h3⟩ := He.ba h2
    refine ⟨h1, fun hn => ?_, fun y hy => of_decide_eq_true (List.all_eq_true.mp h3 y hy)⟩
    rcases Bool.or_eq_true_iff.mp h2 with z | z
    · exact absurd (of_decide_eq_true z) hn
    · exact z
  refine ⟨go, fun x hx => ?_, fun x hx => (key x hx).2.1, fun x hx => (key x hx).2.2⟩
  have k := (key x hx).1
  unfold errOkB at k
  obtain ⟨k1, k⟩ := He.ba k
  obtain ⟨k2, k⟩ := He.ba k
  obtain ⟨k3, k⟩ := He.ba k
  obtain ⟨k4, k⟩ := He.ba k
  obtain ⟨k5, k⟩ := He.ba k
  obtain ⟨k6, k⟩ := He.ba k
  obtain ⟨k7, k⟩ := He.ba k
  obtain ⟨k8, k⟩ := He.ba k
  obtain ⟨k9, k⟩ := He.ba k
  obtain ⟨k10, k⟩ := He.ba k
  obtain ⟨k11, k⟩ := He.ba k
  obtain ⟨k12, k13⟩ := He.ba k
  exact ⟨g x hx, k1, of_decide_eq_true k2, of_decide_eq_true k3, ⟨of_decide_eq_true k4, of_decide_eq_true k5, of_decide_eq_true k2, k6, of_decide_eq_true k7, of_decide_eq_true k8, of_decide_eq_true k9, of_decide_eq_true k10⟩, of_decide_eq_true k11, of_decide_eq_true k12, of_decide_eq_true k13⟩
section
variable {X : Cx}
/-- X('m'), X an error of the program -/
theorem pmkE {x m : Str} {j : Nat} {p p2 pos : Pos} (R : Errs X.K X.mg) (hx : x ∈ errN) (hn : x ≠ "BadPlan") (hg : Gl X x) (hdb : (x == ("__debug__" : Str)) = false := by decide) :
    PMk X (.Call (.Name x p) [.Constant (.str m) j p2] [] pos) (fun _ H Q => Q (.ref (He.ga X.K x)) none H) :=
  pmk_own PySem.F.excBase_ValueError (R.own x hx hn) (R.ok x hx).g (R.ok x hx).kp (raises_own (R.ok x hx).sb (R.ok x hx).ty) hg hdb
end
end Oa
namespace Oat
theorem told_known {c : Case} (wf : WfL c.L) {cs : List Nat} (h : told c = some cs) : cs.length = c.L.length + 1 ∧ ∀ p, p ≤ c.L.length → ∃ r, dget (tab c p) (cs.getD p 0) = some r := by
  unfold told at h
  obtain ⟨m, hm, rfl⟩ := Option.map_eq_some_iff.mp h
  have := known_upto wf hm (c.L.length + 1) (Nat.le_refl _)
  refine ⟨this.1, fun p hp => Option.isSome_iff_exists.mp (this.2 p hp ?_)⟩
  by_cases z : p = 0
  · exact .inl z
  · have := wf (p - 1) (by omega)
    exact .inr (by omega)
def timeAt (c : Case) (cs : List Nat) (p : Nat) : Int × Int := match dget (tab c p) (cs.getD p 0) with
  | some r => (r.out, r.back)
  | none => (0, 0)
def timesOf (c : Case) (cs : List Nat) : List (Int × Int) := (List.range c.L.length).map fun i => timeAt c cs (i + 1)
end Oat
namespace Oa
open PySem PySem.Spec PyProof.Rows L2 Oat
section
variable {P : Program} {w : World} {K : PySem.W.Frag} {mg : Str → Option Value} {base : Heap}
mutual
theorem dp_same {H H' : Hp} (s : Same H H') : ∀ {v : V} {d : PyData}, Dp K H v d → Dp K H' v d
  | _, _, .non => .non
  | _, _, .bl b => .bl b
  | _, _, .int i => .int i
  | _, _, .str x => .str x
  | _, _, .lst h a => .lst (same_l s h) (dpAll_same s a)
  | _, _, .tup h a => .tup (same_t s h) (dpAll_same s a)
theorem dpAll_same {H H' : Hp} (s : Same H H') : ∀ {v : List V} {d : List PyData}, DpAll K H v d → DpAll K H' v d
  | _, _, .nil => .nil
  | _, _, .cons a b => .cons (dp_same s a) (dpAll_same s b)
end
mutual
def noLst : PyData → Bool
  | .none | .bool _ | .int _ | .str _ => true
  | .tuple xs => noLstAll xs
  | .list _ | .dict _ => false
def noLstAll : List PyData → Bool
  | [] => true
  | x :: xs => noLst x && noLstAll xs
end
mutual
theorem dp_tx {H H' : Hp} (x : TExt H H') : ∀ {v : V} {d : PyData}, noLst d = true → Dp K H v d → Dp K H' v d
  | _, _, _, .non => .non
  | _, _, _, .bl b => .bl b
  | _, _, _, .int i => .int i
  | _, _, _, .str y => .str y
  | _, _, h, .lst _ _ => by simp [noLst] at h
  | _, _, h, .tup h1 a => .tup (x.t h1) (dpAll_tx x (by simpa only [noLst] using h) a)
theorem dpAll_tx {H H' : Hp} (x : TExt H H') : ∀ {v : List V} {d : List PyData}, noLstAll d = true → DpAll K H v d → DpAll K H' v d
  | _, _, _, .nil => .nil
  | _, _, h, .cons a b => by
    simp only [noLstAll, Bool.and_eq_true] at h
    exact .cons (dp_tx x h.1 a) (dpAll_tx x h.2 b)
end
theorem sql_sb {H H' : Hp} {D l : Addr} {xs : List V} (sb : ∀ b o, b ≠ D → H b = some o → H' b = some o) (hne : l ≠ D) (h : SqL K H l xs) : SqL K H' l xs := by
  rcases h with (h | ⟨o, h⟩) | h
  · exact .inl (.inl (sb _ _ hne h))
  · exact .inl (.inr ⟨o, sb _ _ hne h⟩)
  · exact .inr h
theorem dp_sb {H H' : Hp} {D l : Addr} {zs : List V} {ds : List PyData} (hl : H D = some (.lst zs)) (sb : SameBut D H H') (hne : l ≠ D) (hn : noLstAll ds = true) (h : Dp K H (.ref l) (.list ds)) : Dp K H' (.ref l) (.list ds) := by
  cases h with
  | lst h1 h2 => exact .lst (sql_sb sb hne h1) (dpAll_tx (tx_sb hl sb) hn h2)
theorem noLst_nats : ∀ cs : List Nat, noLstAll (cs.map fun (n : Nat) => .int (n : Int)) = true
  | [] => by simp [noLstAll]
  | c :: cs => by simp only [List.map_cons, noLstAll, noLst, noLst_nats cs, Bool.and_self]
def natsD (cs : List Nat) : PyData := .list (cs.map fun (n : Nat) => .int (n : Int))
def pairD (x : Int × Int) : PyData := .tuple [.int x.1, .int x.2]
def pairsD (xs : List (Int × Int)) : PyData := .list (xs.map pairD)
theorem noLst_pairs : ∀ xs : List (Int × Int), noLstAll (xs.map pairD) = true
  | [] => by simp [noLstAll]
  | c :: cs => by simp only [List.map_cons, noLstAll, pairD, noLst, noLst_pairs cs, Bool.and_self]
theorem dpAll_nats {H : Hp} : ∀ (cs : List Nat), DpAll K H (cs.map fun (n : Nat) => V.int (n : Int)) (cs.map fun (n : Nat) => .int (n : Int))
  | [] => .nil
  | _ :: cs => .cons (.int _) (dpAll_nats cs)
theorem dp_nats {H : Hp} {l : Addr} {cs : List Nat} (h : SqL K H l (cs.map fun (n : Nat) => V.int (n : Int))) : Dp K H (.ref l) (natsD cs) := .lst h (dpAll_nats cs)
/-! ### left_beyond -/
def sp_left_beyond (K : PySem.W.Frag) : Sp := fun vs H Q E => ∃ a b d c carts, vs = [.ref a, .ref b, .ref d, .int ((c.left : Nat) : Int)] ∧ CaseAt K H a b d c carts ∧ c.room ≤ 20 ∧
  (told c = none → ∀ H', Same H H' → E (.ref (He.ga K "NoneSuch")) none H') ∧ (∀ cs, told c = some cs → ∀ l H', Same H H' → H l = none → H' l = some (.lst (cs.map fun (n : Nat) => V.int (n : Int))) → Q (.ref l) H')
theorem c_left_beyond (T : Txt K mg) (R : Errs K mg) : CalK P w K mg base (L2.CX P w) 5 "left_beyond" ["land", "works", "wants", "left"] 3 "left" (.int 0) (sp_left_beyond K) := by
  refine calK T.d_left_beyond sc_left_beyond rfl (fun _ _ _ _ _ _ us ws h1 h2 => match us, ws, h1, h2 with | [_, _, _], [_], _, _ => rfl) (fun _ _ _ _ _ _ us ws h1 h2 => match us, ws, h1, h2 with | [_, _, _], [_], _, _ => ⟨_, _, _, _, _, _, rfl, rfl, rfl⟩) (fun vs H Q E h => ?_) (fun f cdv A outer s H vs Q E hr h => ?_)
  · obtain ⟨a, b, d, c, carts, rfl, _⟩ := h
    rfl
  · obtain ⟨a, b, d, c, carts, rfl, hC, h20, qn, q⟩ := h
    refine ⟨_, (pss_cons (ps_expr (pcall (c_look_case T) (hr.mono (by omega)) (pa_cons (pv 0) (pa_cons (pv 1) (pa_cons (pv 2) (pa_cons (pv 3) pa_nil))))))
      (pss_cons (ps_set (i := 4) sc_left_beyond.nd rfl (Or.inl rfl) (pcall (c_told_way T) (hr.mono (by omega)) (pa_cons (pv 0) (pa_cons (pv 1) (pa_cons (pv 2) (pa_cons (pv 3) pa_nil))))))
      (pss_cons (ps_if (pt_cmpR op_isN (pv 4) pe_non (nomark _)) (pss_one (ps_raise rfl (takes_of rfl rfl rfl rfl) (pmkE R (by decide +kernel) (by decide +kernel) rfl))) pss_nil)
      (pss_one (ps_ret (pv 4)))))), ?_⟩
    refine ⟨_, rfl, _, rfl, _, rfl, _, rfl, a, b, d, c, carts, rfl, hC, h20, fun H1 s1 => ?_⟩
    refine ⟨_, rfl, _, rfl, _, rfl, _, rfl, a, b, d, c, carts, rfl, hC.same s1, fun v H2 s2 hv => ?_⟩
    cases ht : told c with
    | none =>
      rw [ht] at hv
      have hv : v = .non := hv
      subst hv
      exact ⟨_, rfl, rfl, true, rfl, iteT (qn ht _ (s1.trans s2))⟩
    | some cs =>
      rw [ht] at hv
      obtain ⟨l, rfl, nl, hl⟩ := hv
      exact ⟨_, rfl, rfl, false, rfl, iteF ⟨_, rfl, q cs ht l _ (s1.trans s2) (s1.free nl) hl⟩⟩
/-! ### crossings -/
def sp_crossings (K : PySem.W.Frag) : Sp := fun vs H Q E => ∃ a b d c carts, vs = [.ref a, .ref b, .ref d, .int ((c.left : Nat) : Int)] ∧ CaseAt K H a b d c carts ∧ c.room ≤ 20 ∧
  (told c = none → ∀ H', Same H H' → E (.ref (He.ga K "NoneSuch")) none H') ∧ (∀ cs, told c = some cs → ∀ l H', Same H H' → H l = none → Dp K H' (.ref l) (pairsD (timesOf c cs)) → Q (.ref l) H')
theorem c_crossings (T : Txt K mg) (R : Errs K mg) : CalK P w K mg base (L2.CX P w) 5 "crossings" ["land", "works", "wants", "left"] 3 "left" (.int 0) (sp_crossings K) := by
  refine calK T.d_crossings sc_crossings rfl (fun _ _ _ _ _ _ us ws h1 h2 => match us, ws, h1, h2 with | [_, _, _], [_], _, _ => rfl) (fun _ _ _ _ _ _ us ws h1 h2 => match us, ws, h1, h2 with | [_, _, _], [_], _, _ => ⟨_, _, _, _, _, _, rfl, rfl, rfl⟩) (fun vs H Q E h => ?_) (fun f cdv A outer s H vs Q E hr h => ?_)
  · obtain ⟨a, b, d, c, carts, rfl, _⟩ := h
    rfl
  · obtain ⟨a, b, d, c, carts, rfl, hC, h20, qn, q⟩ := h
    refine ⟨_, (pss_cons (ps_expr (pcall (c_look_case T) (hr.mono (by omega)) (pa_cons (pv 0) (pa_cons (pv 1) (pa_cons (pv 2) (pa_cons (pv 3) pa_nil))))))
      (pss_cons (ps_set (i := 4) sc_crossings.nd rfl (Or.inr rfl) (pcall (c_told_way T) (hr.mono (by omega)) (pa_cons (pv 0) (pa_cons (pv 1) (pa_cons (pv 2) (pa_cons (pv 3) pa_nil))))))
      (pss_cons (ps_if (pt_cmpR op_isN (pv 4) pe_non (nomark _)) (pss_one (ps_raise rfl (takes_of rfl rfl rfl rfl) (pmkE R (by decide +kernel) (by decide +kernel) rfl))) pss_nil)
      (pss_cons (ps_set (i := 5) sc_crossings.nd rfl (Or.inr rfl) (pcall (c_tables_of T) (hr.mono (by omega)) (pa_cons (pv 0) (pa_cons (pv 1) (pa_cons (pv 2) (pa_cons (pv 3) pa_nil))))))
      (pss_one (ps_ret (pe_lc (own := [("k", 6)]) (g := gName 6) rfl sc_crossings.nd (pi_range2 rfl T.b_range (pa_cons pe_int (pa_cons (pe_callB (lenS K) rfl T.b_len PySem.boot_len (pa_cons (pv 0) pa_nil)) pa_nil))) (blkOk_by (own := [("k", 6)]) (N := ["land", "works", "wants", "left", "told", "tables", "k"]) (sc := (defScope s_crossings)) (by decide +kernel)) (fun _ _ _ _ _ => pg_name (i := 6) sc_crossings.nd rfl (Or.inl rfl)) (fun _ _ _ _ _ => pts_nil) (fun _ _ _ _ _ => (pe_slice (slA K) (pe_dget (hu_of hr) (pe_ix (ixL K) (pv 5) (pv 6) (fun _ _ => rfl)) (pe_ix (ixL K) (pv 4) (pv 6) (fun _ _ => rfl)) (fun _ _ => rfl)) (po_some pe_int) (po_some pe_int)))))))))), ?_⟩
    have hn := hC.n
    have el : (landV c.L).length = c.L.length + 1 := landV_len c.L
    refine ⟨_, rfl, _, rfl, _, rfl, _, rfl, a, b, d, c, carts, rfl, hC, h20, fun H1 s1 => ?_⟩
    refine ⟨_, rfl, _, rfl, _, rfl, _, rfl, a, b, d, c, carts, rfl, hC.same s1, fun v H2 s2 hv => ?_⟩
    have s02 := s1.trans s2
    cases ht : told c with
    | none =>
      rw [ht] at hv
      have hv : v = .non := hv
      subst hv
      exact ⟨_, rfl, rfl, true, rfl, iteT (qn ht _ s02)⟩
    | some cs =>
      rw [ht] at hv
      obtain ⟨l, rfl, nl, hl⟩ := hv
      obtain ⟨hcl, hkn⟩ := told_known hC.wf ht
      refine ⟨_, rfl, rfl, false, rfl, iteF ?_⟩
      refine ⟨_, rfl, _, rfl, _, rfl, _, rfl, a, b, d, c, carts, rfl, hC.same s02, fun D ds H3 nD s3 hdl hf tb => ?_⟩
      have s03 := s02.trans s3
      refine ⟨_, rfl, a, _, rfl, .inr (same_t s03 hC.l), _, _, rfl, ⟨by decide, by decide, by omega, by omega⟩, fun B hB => ?_⟩
      rw [el, show (((c.L.length + 1 : Nat) : Int) - 1).toNat = c.L.length by omega]
      refine lc_rel walk_range hB (by omega) (fun _ _ => trivial) (fun _ => true) (fun i v H' => Dp K H' v (pairD (timeAt c cs (i + 1)))) (fun i v H4 H5 l hl sb r => ?_) (fun i x H4 H5 l2 hi s4 hy y => ?_) (fun ys H4 s4 hy hp => ?_)
      · unfold pairD at r ⊢
        cases r with
        | tup h1 h2 =>
          refine .tup ((tx_sb hl sb).t h1) ?_
          cases h2 with
          | cons p1 p2 =>
            cases p1
            cases p2 with
            | cons p3 p4 =>
              cases p3
              cases p4
              exact .cons (.int _) (.cons (.int _) .nil)
      · obtain ⟨rfl, rfl⟩ := y
        have e1 : (1 : Int) + (i : Int) = ((i + 1 : Nat) : Int) := by omega
        dsimp only
        rw [e1]
        have hid : i + 1 < ds.length := by omega
        refine ⟨Same.refl _, rfl, fun Q' q' => q' H5 (Same.refl _), fun _ H6 s6 Q' q' => ?_⟩
        have tb6 := tb.same (s4.trans s6)
        obtain ⟨r, hr1⟩ := hkn (i + 1) (by omega)
        obtain ⟨kv, hz, pz⟩ := tb6.at_ (i + 1) ds[i + 1] (List.getElem?_eq_getElem hid)
        obtain ⟨vr, hvr, pr, qr, rfl, hr3, hr4⟩ := (pd_get (cs.getD (i + 1) 0) pz).2 r hr1
        have hci : cs[i + 1]? = some (cs.getD (i + 1) 0) := by
          rw [List.getD_eq_getElem?_getD, List.getElem?_eq_getElem (by omega)]
          rfl
        refine ⟨_, rfl, _, rfl, D, _, _, .ref ds[i + 1], rfl, rfl, sql tb6.l, atI_nat (by rw [List.getElem?_map, List.getElem?_eq_getElem hid]; rfl), _, rfl, _, rfl, l, _, _, .int ((cs.getD (i + 1) 0 : Nat) : Int), rfl, rfl, sql ((s3.trans (s4.trans s6)) _ _ hl), atI_nat (by rw [List.getElem?_map, hci]; rfl), ?_⟩
        refine ⟨ds[i + 1], .ref pr, rfl, .inl ⟨kv, .inl _, .inl hz, rfl, hvr.symm⟩, ?_⟩
        refine ⟨_, rfl, _, rfl, pr, _, rfl, hr3, fun z => absurd z.1 (by show ¬ HT.sIx 4 0 (some 1) = 0; decide), fun _ p np => ?_⟩
        refine q' _ _ (same_new np) ?_
        have et : timeAt c cs (i + 1) = (r.out, r.back) := by
          unfold timeAt
          rw [hr1]
        rw [et]
        exact .tup (sqt (xs := [.int r.out, .int r.back]) (by rw [upd_same]; rfl)) (.cons (.int _) (.cons (.int _) .nil))
      · refine q cs ht _ _ (s03.trans s4) (s03.free hB) (.lst (sql hy) ?_)
        rw [show (List.range c.L.length).filter (fun _ => true) = List.range c.L.length by simp] at hp
        have : ∀ {l : List Nat} {ys : List V}, Paired (fun i v => Dp K H4 v (pairD (timeAt c cs (i + 1)))) l ys → DpAll K H4 ys ((l.map fun i => timeAt c cs (i + 1)).map pairD) := by
          intro l ys h
          induction h with
          | nil => exact .nil
          | cons a b ih => exact .cons a ih
        exact this hp
/-! ### _law_refusal -/
def errW (x : Str) : Str := if x = "BadLand" then "land" else if x = "BadWorks" then "works" else if x = "BadWants" then "wants" else if x = "BadPlan" then "plan" else if x = "BadPaper" then "paper" else if x = "BadText" then "text" else "none"
def sp_law_refusal (K : PySem.W.Frag) : Sp := fun vs H Q _ => ∃ a x, vs = [.ref a] ∧ x ∈ errN ∧ H a = some (ExH (.ref (He.ga K x)) none a) ∧ ∀ H', Same H H' → Q (.str (errW x)) H'
theorem c__law_refusal (T : Txt K mg) (R : Errs K mg) : Cal P w K mg base CX0 1 "_law_refusal" ["caught"] (sp_law_refusal K) := by
  refine cal0 T.d__law_refusal sc__law_refusal (fun _ _ _ _ _ _ us hl => match us, hl with | [_], _ => rfl) (fun vs H Q E h => ?_) (fun f cdv A outer s H vs Q E hr h => ?_)
  · obtain ⟨a, x, rfl, _⟩ := h
    rfl
  · obtain ⟨a, x, rfl, hx, hH, q⟩ := h
    refine ⟨_, (pss_cons (ps_set (i := 1) sc__law_refusal.nd rfl (Or.inl rfl) (pe_lst (pa_cons (pe_callB (isH K) rfl T.b_isinstance (by decide +kernel) (pa_cons (pv 0) (pa_cons (pe_glob (v := .ref (He.ga K "BadLand")) rfl (R.ok "BadLand" (by decide +kernel)).g rfl) pa_nil))) (pa_cons (pe_callB (isH K) rfl T.b_isinstance (by decide +kernel) (pa_cons (pv 0) (pa_cons (pe_glob (v := .ref (He.ga K "BadWorks")) rfl (R.ok "BadWorks" (by decide +kernel)).g rfl) pa_nil))) (pa_cons (pe_callB (isH K) rfl T.b_isinstance (by decide +kernel) (pa_cons (pv 0) (pa_cons (pe_glob (v := .ref (He.ga K "BadWants")) rfl (R.ok "BadWants" (by decide +kernel)).g rfl) pa_nil))) pa_nil)))))
      (pss_cons (ps_set (i := 1) sc__law_refusal.nd rfl (Or.inl rfl) (pe_op op_cat (pv 1) (pe_lst (pa_cons (pe_callB (isH K) rfl T.b_isinstance (by decide +kernel) (pa_cons (pv 0) (pa_cons (pe_glob (v := .ref (He.ga K "BadPlan")) rfl (R.ok "BadPlan" (by decide +kernel)).g rfl) pa_nil))) (pa_cons (pe_callB (isH K) rfl T.b_isinstance (by decide +kernel) (pa_cons (pv 0) (pa_cons (pe_glob (v := .ref (He.ga K "BadPaper")) rfl (R.ok "BadPaper" (by decide +kernel)).g rfl) pa_nil))) (pa_cons (pe_callB (isH K) rfl T.b_isinstance (by decide +kernel) (pa_cons (pv 0) (pa_cons (pe_glob (v := .ref (He.ga K "BadText")) rfl (R.ok "BadText" (by decide +kernel)).g rfl) pa_nil))) pa_nil))))))
      (pss_cons (ps_set (i := 1) sc__law_refusal.nd rfl (Or.inl rfl) (pe_op op_cat (pv 1) (pe_lst (pa_cons (pe_callB (isH K) rfl T.b_isinstance (by decide +kernel) (pa_cons (pv 0) (pa_cons (pe_glob (v := .ref (He.ga K "NoneSuch")) rfl (R.ok "NoneSuch" (by decide +kernel)).g rfl) pa_nil))) pa_nil))))
      (pss_cons (ps_if (PW.pt (pw_or (pt_cmpR op_ne (pe_bm PySem.F.plainAttrs_list PySem.F.slot_list_count PySem.F.type_list_count (mt_countF K) (pv 1) (pa_cons pe_bl pa_nil)) pe_int (nomark _)) (pw_or (pt_not (pt_val (pe_callB (isH K) rfl T.b_isinstance (by decide +kernel) (pa_cons (pv 0) (pa_cons (pe_glob (v := .ref (He.ga K "OatError")) rfl R.oat rfl) pa_nil))))) (pw_or1 (pt_not (pt_val (pe_callB (isH K) rfl T.b_isinstance (by decide +kernel) (pa_cons (pv 0) (pa_cons (pe_bltn (v := .ty "ValueError") rfl T.b_ValueError (by decide +kernel) rfl) pa_nil))))))))) (pss_one (ps_ret pe_str)) pss_nil)
      (pss_one (ps_ret (pe_ix (ixL K) (pe_lst (pa_cons pe_str (pa_cons pe_str (pa_cons pe_str (pa_cons pe_str (pa_cons pe_str (pa_cons pe_str (pa_cons pe_str pa_nil)))))))) (pe_bm PySem.F.plainAttrs_list PySem.F.slot_list_index PySem.F.type_list_index (mt_indexK K) (pv 1) (pa_cons pe_bl pa_nil)) (fun _ _ => rfl)))))))), ?_⟩
    have O := R.ok x hx
    have S := R.sep x hx
    refine ⟨_, rfl, a, _, _, _, _, rfl, hH, O.ec, .own _, S "BadLand" (by decide +kernel), ?_⟩
    refine ⟨_, rfl, a, _, _, _, _, rfl, hH, O.ec, .own _, S "BadWorks" (by decide +kernel), ?_⟩
    refine ⟨_, rfl, a, _, _, _, _, rfl, hH, O.ec, .own _, S "BadWants" (by decide +kernel), by show 3 ≤ sizeLine; decide, fun l1 n1 => ?_⟩
    have s1 := same_new (o := .lst [.bl (decide (x = "BadLand")), .bl (decide (x = "BadWorks")), .bl (decide (x = "BadWants"))]) n1
    have g1 : (upd H l1 (.lst [.bl (decide (x = "BadLand")), .bl (decide (x = "BadWorks")), .bl (decide (x = "BadWants"))])) l1 = _ := upd_same
    dsimp only [gName]
    generalize (upd H l1 (.lst [.bl (decide (x = "BadLand")), .bl (decide (x = "BadWorks")), .bl (decide (x = "BadWants"))])) = H1 at s1 g1 ⊢
    have h1 := s1 _ _ hH
    refine ⟨_, rfl, _, rfl, a, _, _, _, _, rfl, h1, O.ec, .own _, S "BadPlan" (by decide +kernel), ?_⟩
    refine ⟨_, rfl, a, _, _, _, _, rfl, h1, O.ec, .own _, S "BadPaper" (by decide +kernel), ?_⟩
    refine ⟨_, rfl, a, _, _, _, _, rfl, h1, O.ec, .own _, S "BadText" (by decide +kernel), by show 3 ≤ sizeLine; decide, fun l2 n2 => ?_⟩
    have s2 := same_new (o := .lst [.bl (decide (x = "BadPlan")), .bl (decide (x = "BadPaper")), .bl (decide (x = "BadText"))]) n2
    refine ⟨l1, l2, _, _, rfl, rfl, s2 _ _ g1, upd_same, by show 6 ≤ sizeLine; decide, fun l3 n3 => ?_⟩
    have s3 := s2.trans (same_new (o := .lst ([.bl (decide (x = "BadLand")), .bl (decide (x = "BadWorks")), .bl (decide (x = "BadWants"))] ++ [.bl (decide (x = "BadPlan")), .bl (decide (x = "BadPaper")), .bl (decide (x = "BadText"))])) n3)
    have g3 : (upd (upd H1 l2 (.lst [.bl (decide (x = "BadPlan")), .bl (decide (x = "BadPaper")), .bl (decide (x = "BadText"))])) l3 (.lst ([.bl (decide (x = "BadLand")), .bl (decide (x = "BadWorks")), .bl (decide (x = "BadWants"))] ++ [.bl (decide (x = "BadPlan")), .bl (decide (x = "BadPaper")), .bl (decide (x = "BadText"))]))) l3 = _ := upd_same
    dsimp only [gName]
    generalize (upd (upd H1 l2 (.lst [.bl (decide (x = "BadPlan")), .bl (decide (x = "BadPaper")), .bl (decide (x = "BadText"))])) l3 (.lst ([.bl (decide (x = "BadLand")), .bl (decide (x = "BadWorks")), .bl (decide (x = "BadWants"))] ++ [.bl (decide (x = "BadPlan")), .bl (decide (x = "BadPaper")), .bl (decide (x = "BadText"))]))) = H3 at s3 g3 ⊢
    have h3 := s3 _ _ h1
    refine ⟨_, rfl, _, rfl, a, _, _, _, _, rfl, h3, O.ec, .own _, S "NoneSuch" (by decide +kernel), by show 1 ≤ sizeLine; decide, fun l4 n4 => ?_⟩
    have s4 := same_new (o := .lst [.bl (decide (x = "NoneSuch"))]) n4
    refine ⟨l3, l4, _, _, rfl, rfl, s4 _ _ g3, upd_same, by show 7 ≤ sizeLine; decide, fun l5 n5 => ?_⟩
    have s5 := s4.trans (same_new (o := .lst (([.bl (decide (x = "BadLand")), .bl (decide (x = "BadWorks")), .bl (decide (x = "BadWants"))] ++ [.bl (decide (x = "BadPlan")), .bl (decide (x = "BadPaper")), .bl (decide (x = "BadText"))]) ++ [.bl (decide (x = "NoneSuch"))])) n5)
    have g5 : (upd (upd H3 l4 (.lst [.bl (decide (x = "NoneSuch"))])) l5 (.lst (([.bl (decide (x = "BadLand")), .bl (decide (x = "BadWorks")), .bl (decide (x = "BadWants"))] ++ [.bl (decide (x = "BadPlan")), .bl (decide (x = "BadPaper")), .bl (decide (x = "BadText"))]) ++ [.bl (decide (x = "NoneSuch"))]))) l5 = _ := upd_same
    dsimp only [gName]
    generalize (upd (upd H3 l4 (.lst [.bl (decide (x = "NoneSuch"))])) l5 (.lst (([.bl (decide (x = "BadLand")), .bl (decide (x = "BadWorks")), .bl (decide (x = "BadWants"))] ++ [.bl (decide (x = "BadPlan")), .bl (decide (x = "BadPaper")), .bl (decide (x = "BadText"))]) ++ [.bl (decide (x = "NoneSuch"))]))) = H5 at s5 g5 ⊢
    have h5 := s5 _ _ h3
    have key : ∃ j : Nat, (([.bl (decide (x = "BadLand")), .bl (decide (x = "BadWorks")), .bl (decide (x = "BadWants"))] ++ [.bl (decide (x = "BadPlan")), .bl (decide (x = "BadPaper")), .bl (decide (x = "BadText"))]) ++ [.bl (decide (x = "NoneSuch"))] : List V).countP (fun z => eqV z (.bl true)) = 1 ∧
        (([.bl (decide (x = "BadLand")), .bl (decide (x = "BadWorks")), .bl (decide (x = "BadWants"))] ++ [.bl (decide (x = "BadPlan")), .bl (decide (x = "BadPaper")), .bl (decide (x = "BadText"))]) ++ [.bl (decide (x = "NoneSuch"))] : List V)[j]? = some (.bl true) ∧
        ((([.bl (decide (x = "BadLand")), .bl (decide (x = "BadWorks")), .bl (decide (x = "BadWants"))] ++ [.bl (decide (x = "BadPlan")), .bl (decide (x = "BadPaper")), .bl (decide (x = "BadText"))]) ++ [.bl (decide (x = "NoneSuch"))] : List V).take j).all (fun z => !eqV z (.bl true)) = true ∧
        ([.str "land", .str "works", .str "wants", .str "plan", .str "paper", .str "text", .str "none"] : List V)[j]? = some (.str (errW x)) := by
      unfold errN at hx
      simp only [List.mem_cons, List.mem_nil_iff, or_false] at hx
      rcases hx with rfl | rfl | rfl | rfl | rfl | rfl | rfl
      · exact ⟨0, by kernel_rfl, by kernel_rfl, by kernel_rfl, by kernel_rfl⟩
      · exact ⟨1, by kernel_rfl, by kernel_rfl, by kernel_rfl, by kernel_rfl⟩
      · exact ⟨2, by kernel_rfl, by kernel_rfl, by kernel_rfl, by kernel_rfl⟩
      · exact ⟨3, by kernel_rfl, by kernel_rfl, by kernel_rfl, by kernel_rfl⟩
      · exact ⟨4, by kernel_rfl, by kernel_rfl, by kernel_rfl, by kernel_rfl⟩
      · exact ⟨5, by kernel_rfl, by kernel_rfl, by kernel_rfl, by kernel_rfl⟩
      · exact ⟨6, by kernel_rfl, by kernel_rfl, by kernel_rfl, by kernel_rfl⟩
    obtain ⟨j, k1, k2, k3, k4⟩ := key
    refine ⟨_, rfl, .inl ⟨rfl, _, sql g5⟩, l5, _, .bl true, rfl, rfl, sql g5, rfl, rfl, ?_⟩
    rw [k1]
    refine ⟨rfl, false, rfl, iteF ?_⟩
    refine ⟨_, rfl, a, _, _, _, _, rfl, h5, O.ec, .own _, O.ko, true, rfl, iteF ?_⟩
    refine ⟨_, rfl, a, _, _, _, _, rfl, h5, O.ec, .ty _, O.kv, true, rfl, iteF ?_⟩
    refine ⟨by show 7 ≤ sizeLine; decide, fun l6 n6 => ?_⟩
    have s6 := same_new (o := .lst [.str "land", .str "works", .str "wants", .str "plan", .str "paper", .str "text", .str "none"]) n6
    refine ⟨_, rfl, .inl ⟨rfl, _, sql (s6 _ _ g5)⟩, l5, _, .bl true, j, .bl true, rfl, rfl, sql (s6 _ _ g5), rfl, rfl, k2, rfl, fun m z' hm hz => ?_, ?_⟩
    · have := List.all_eq_true.mp k3 z' (List.mem_iff_getElem?.mpr ⟨m, by rw [List.getElem?_take, if_pos hm]; exact hz⟩)
      simpa using this
    · refine ⟨l6, _, _, _, rfl, rfl, sql upd_same, atI_nat k4, ?_⟩
      exact q _ (s1.trans (s3.trans (s5.trans s6)))
end
end Oa
namespace Oa
open PySem PySem.Spec PyProof.Rows L2 Oat
/-! ### min of a list of pairs (a whole number, a count) -/
def pD (e : Int × Nat) : PyData := .tuple [.int e.1, .int (e.2 : Int)]
theorem lt_pD (a b : Int × Nat) : PySem.W.dataLt (pD a) (pD b) = plt a b := by
  unfold pD
  rw [PySem.W.dataLt_pair (by simp [PySem.W.alike]) (by simp [PySem.W.alike]), PySem.W.dataLt_int, PySem.W.dataLt_int]
  unfold plt
  have e1 : PyData.eqv (.int a.1) (.int b.1) = decide (a.1 = b.1) := by
    simp only [PyData.eqv]
    rw [Bool.eq_iff_iff, beq_iff_eq, decide_eq_true_eq]
  have e2 : PyData.eqv (.int (a.2 : Int)) (.int (b.2 : Int)) = decide (a.2 = b.2) := by
    simp only [PyData.eqv]
    rw [Bool.eq_iff_iff, beq_iff_eq, decide_eq_true_eq]
    omega
  rw [e1, e2]
  by_cases h : a.1 = b.1
  · rw [if_pos (decide_eq_true h), if_pos h]
    by_cases h2 : a.2 = b.2
    · rw [if_pos (decide_eq_true h2), h2]
      simp
    · rw [if_neg (by simpa using h2)]
      exact decide_eq_decide.mpr (by omega)
  · rw [if_neg (by simpa using h), if_neg h]
theorem alikeAll_pD (es : List (Int × Nat)) : PySem.W.AlikeAll (es.map pD) := by
  refine ⟨fun x hx y hy => ?_, fun x hx => ?_⟩
  · obtain ⟨a, _, rfl⟩ := List.mem_map.mp hx
    obtain ⟨b, _, rfl⟩ := List.mem_map.mp hy
    unfold pD
    simp [PySem.W.alike, PySem.W.alikeAll]
  · obtain ⟨a, _, rfl⟩ := List.mem_map.mp hx
    exact fun z => nomatch z
theorem depth_pD : ∀ es : List (Int × Nat), PyData.depthAll (es.map pD) ≤ 4
  | [] => by simp [PyData.depthAll]
  | e :: es => by
    have := depth_pD es
    simp only [List.map_cons, PyData.depthAll, pD, PyData.depth]
    omega
theorem minD_pD (e : Int × Nat) (es : List (Int × Nat)) : PySem.W.minD (pD e) (es.map pD) = pD (es.foldl pmin e) := by
  unfold PySem.W.minD
  induction es generalizing e with
  | nil => rfl
  | cons x es ih =>
    rw [List.map_cons, List.foldl_cons, List.foldl_cons, lt_pD]
    have : (if plt x e = true then pD x else pD e) = pD (pmin e x) := by
      unfold pmin
      split <;> rfl
    rw [this]
    exact ih _
theorem dpAll_pD {K : PySem.W.Frag} {H : Hp} : ∀ {xs : List V} {es : List (Int × Nat)}, Paired (fun v e => Dp K H v (pD e)) xs es → DpAll K H xs (es.map pD)
  | _, _, .nil => .nil
  | _, _, .cons a b => .cons a (dpAll_pD b)
section
variable {X : Cx}
def rMinLP (K : PySem.W.Frag) : List V → Hp → VK → Prop := fun vs H Q => ∃ p xs e es, vs = [.ref p] ∧ SqL K H p xs ∧ Paired (fun v e => Dp K H v (pD e)) xs (e :: es) ∧ ∀ v, Dp K H v (pD (es.foldl pmin e)) → Q v H
theorem minLP (K : PySem.W.Frag) (hc : X.calm = true) (hu : X.A.units + 64 < cLine) (h : X.K = K := by rfl) : CallR X (.builtin "min") (rMinLP K) := by
  subst h
  intro pins s σ H vs us Q I r h
  obtain ⟨p, xs, e, es, rfl, hs, hp, q⟩ := h
  obtain ⟨its, rv, hl, _⟩ := I.list hs
  rw [Vals.ref1 r]
  obtain ⟨as, hr⟩ := Dp.readsAll I _ _ _ (dpAll_pD hp) rv
  have d := depth_pD (e :: es)
  refine PySem.W.oa_min_list (vs := its.toArray) (x := pD e) (xs := es.map pD) (I.ok.hd hc) hl.isList (by simpa using hr) (alikeAll_pD (e :: es)) (by have : PyData.depthAll (pD e :: es.map pD) ≤ 4 := d; omega) fun i v h' tk hi hv hm k => ?_
  have hv' : its[i]? = some v := by simpa using hv
  have hi' : i < xs.length := by
    rw [Paired.length hp]
    simpa using hi
  obtain ⟨u, hu', ru⟩ := Vals.get rv (List.getElem?_eq_getElem hi')
  have : u = v := Option.some.inj (hu'.symm.trans hv')
  subst this
  have hd : Dp X.K H xs[i] (pD ((e :: es).getD i (0, 0))) := by
    have : ∀ {xs : List V} {es : List (Int × Nat)}, Paired (fun v e => Dp X.K H v (pD e)) xs es → ∀ (i : Nat) (h : i < xs.length), Dp X.K H xs[i] (pD (es.getD i (0, 0))) := by
      intro xs es hp
      induction hp with
      | nil => intro i h; exact absurd h (Nat.not_lt_zero _)
      | cons a b ih =>
        intro i h
        cases i with
        | zero => exact a
        | succ i => exact ih i (by simpa using h)
    exact this hp i hi'
  have eg : (pD e :: es.map pD).getD i .none = pD ((e :: es).getD i (0, 0)) := by
    have hl' : i < (e :: es).length := by simpa using hi
    rw [← List.map_cons, List.getD_eq_getElem?_getD, List.getElem?_map, List.getD_eq_getElem?_getD, List.getElem?_eq_getElem hl']
    rfl
  rw [eg, minD_pD] at hm
  rw [hm] at hd
  exact ⟨_, H, I.kept k, ru, q _ hd⟩
end
/-! ### data beside itself -/
mutual
def noDict : PyData → Bool
  | .none | .bool _ | .int _ | .str _ => true
  | .list xs | .tuple xs => noDictAll xs
  | .dict _ => false
def noDictAll : List PyData → Bool
  | [] => true
  | x :: xs => noDict x && noDictAll xs
end
mutual
theorem eqv_refl : ∀ d : PyData, noDict d = true → PyData.eqv d d = true
  | .none, _ => rfl
  | .bool b, _ => by simp [PyData.eqv]
  | .int i, _ => by simp [PyData.eqv]
  | .str x, _ => by simp [PyData.eqv]
  | .list xs, h => by
    simp only [PyData.eqv]
    exact eqvAll_refl xs (by simpa only [noDict] using h)
  | .tuple xs, h => by
    simp only [PyData.eqv]
    exact eqvAll_refl xs (by simpa only [noDict] using h)
  | .dict _, h => by simp [noDict] at h
theorem eqvAll_refl : ∀ ds : List PyData, noDictAll ds = true → PyData.eqvAll ds ds = true
  | [], _ => rfl
  | d :: ds, h => by
    simp only [noDictAll, Bool.and_eq_true] at h
    simp only [PyData.eqvAll, eqv_refl d h.1, eqvAll_refl ds h.2, Bool.and_self]
end
end Oa
namespace Oat
open Oa
theorem stepBest_nil (left : Nat) (F : Fnd) : stepBest left F [] = [] := by
  unfold stepBest
  have : ∀ (F : Fnd) (acc : Fnd), F.foldl (fun acc e => ([] : List (Nat × Int)).foldl (addRow left e.1 e.2) acc) acc = acc := by
    intro F
    induction F with
    | nil => intro acc; rfl
    | cons e F ih => intro acc; exact ih acc
  exact this F []
theorem bestF_empty {ts : List (List (Nat × Int))} {left : Nat} (h : [] ∈ ts) : bestF ts left = [] := by
  obtain ⟨a, b, rfl⟩ := List.append_of_mem h
  unfold bestF
  rw [List.foldl_append, List.foldl_cons, stepBest_nil]
  clear h
  induction b with
  | nil => rfl
  | cons t b ih => exact ih
theorem tab_empty_up {c : Case} (wf : WfL c.L) {p k : Nat} (hp : p ≤ c.L.length) (hk : k ∈ kids c.L p) (h : tab c k = []) : tab c p = [] := by
  rw [tab_eq wf hp, tabOf_up]
  refine List.eq_nil_iff_forall_not_mem.mpr fun x hx => ?_
  have := (rowsUp_mem hx).2
  obtain ⟨b, hb⟩ := rowOf_best this
  have hn : best ((kids c.L p).map fun k => takes (tab c k)) x.1 = none := best_none.mpr (bestF_empty (List.mem_map.mpr ⟨k, hk, by rw [h]; rfl⟩))
  rw [hn] at hb
  cases hb
theorem tab_empty_zero {c : Case} (wf : WfL c.L) : ∀ (n k : Nat), k ≤ n → k ≤ c.L.length → tab c k = [] → tab c 0 = []
  | n, 0, _, _, h => h
  | 0, k + 1, hn, _, _ => by omega
  | n + 1, k + 1, hn, hk, h => by
    have hm : k + 1 ∈ kids c.L (c.L.getD k 0) := mem_kids.mpr ⟨k, by omega, rfl, rfl⟩
    have hw := wf k (by omega)
    exact tab_empty_zero wf n (c.L.getD k 0) (by omega) (by omega) (tab_empty_up wf (by omega) hm h)
theorem mem_blocked {c : Case} {k : Nat} : k ∈ blockedL c ↔ k ≤ c.L.length ∧ tab c k = [] ∧ ∀ q ∈ kids c.L k, tab c q ≠ [] := by
  unfold blockedL
  rw [List.mem_filter, List.mem_range, Bool.and_eq_true_iff, List.isEmpty_iff, List.all_eq_true]
  constructor
  · rintro ⟨h1, h2, h3⟩
    exact ⟨by omega, h2, fun q hq e => by have := h3 q hq; rw [e] at this; cases this⟩
  · rintro ⟨h1, h2, h3⟩
    refine ⟨by omega, h2, fun q hq => ?_⟩
    have := h3 q hq
    cases e : tab c q with
    | nil => exact absurd e this
    | cons _ _ => rfl
theorem blocked_exists {c : Case} (wf : WfL c.L) : ∀ (n p : Nat), c.L.length < n + p → p ≤ c.L.length → tab c p = [] → ∃ k, k ∈ blockedL c
  | 0, p, h1, h2, _ => by omega
  | n + 1, p, h1, h2, h => by
    by_cases hk : ∀ q ∈ kids c.L p, tab c q ≠ []
    · exact ⟨p, mem_blocked.mpr ⟨h2, h, hk⟩⟩
    · have : ∃ q, q ∈ kids c.L p ∧ tab c q = [] := by
        refine Classical.byContradiction fun hn => hk fun q hq e => hn ⟨q, hq, e⟩
      obtain ⟨q, hq, hq2⟩ := this
      have := kids_gt wf hq
      exact blocked_exists wf n q (by omega) (by omega) hq2
theorem least_none {c : Case} : least c = none ↔ tab c 0 = [] := by
  unfold least
  rw [Option.map_eq_none_iff, bestL_none]
  unfold takes
  rw [List.map_eq_nil_iff]
theorem told_none {c : Case} : told c = none ↔ least c = none := by
  unfold least told
  rw [Option.map_eq_none_iff, Option.map_eq_none_iff]
theorem least_blocked {c : Case} (wf : WfL c.L) : decide (least c = none) = !(blockedL c).isEmpty := by
  rw [Bool.eq_iff_iff, decide_eq_true_eq, least_none]
  constructor
  · intro h
    obtain ⟨k, hk⟩ := blocked_exists wf (c.L.length + 1) 0 (by omega) (Nat.zero_le _) h
    cases e : blockedL c with
    | nil => rw [e] at hk; cases hk
    | cons _ _ => rfl
  · intro h
    cases e : blockedL c with
    | nil => rw [e] at h; cases h
    | cons k l =>
      have hk := mem_blocked.mp (show k ∈ blockedL c by rw [e]; exact List.mem_cons_self)
      exact tab_empty_zero wf k k (Nat.le_refl _) hk.1 hk.2.1
/-- behind the base: what goes back -/
theorem tab_back {c : Case} (wf : WfL c.L) {p e : Nat} {r : TRow} (hp : p ≤ c.L.length) (h0 : p ≠ 0) (h : dget (tab c p) e = some r) : r.back = r.out - e := by
  obtain ⟨_, hr⟩ := tab_row wf hp h
  unfold Oat.rowOf at hr
  cases hn : needOf c.W p ((kids c.L p).map fun k => takes (tab c k)) e with
  | none => rw [hn] at hr; cases hr
  | some n =>
    rw [hn] at hr
    have hr : takenOf c p n e = some r := hr
    unfold takenOf at hr
    rw [if_neg h0] at hr
    split at hr
    · rename_i z
      have := Option.some.inj hr
      subst this
      show (0 : Int) = 0 - (e : Int)
      rw [z.1]
      rfl
    · obtain ⟨o, _, rfl⟩ := Option.map_eq_some_iff.mp hr
      rfl
end Oat
namespace Oa
open PySem PySem.Spec PyProof.Rows L2 Oat
theorem noDict_nats : ∀ cs : List Nat, noDictAll (cs.map fun (n : Nat) => .int (n : Int)) = true
  | [] => by simp [noDictAll]
  | c :: cs => by simp only [List.map_cons, noDictAll, noDict, noDict_nats cs, Bool.and_self]
theorem noDict_pairs : ∀ xs : List (Int × Int), noDictAll (xs.map pairD) = true
  | [] => by simp [noDictAll]
  | c :: cs => by simp only [List.map_cons, noDictAll, pairD, noDict, noDict_pairs cs, Bool.and_self]
theorem canLay_nats : ∀ cs : List Nat, PyData.canLayAll0 (cs.map fun (n : Nat) => .int (n : Int)) = true
  | [] => by simp [PyData.canLayAll0]
  | c :: cs => by simp only [List.map_cons, PyData.canLayAll0, PyData.canLay0, canLay_nats cs, Bool.and_self]
theorem canLay_pairs : ∀ xs : List (Int × Int), PyData.canLayAll0 (xs.map pairD) = true
  | [] => by simp [PyData.canLayAll0]
  | c :: cs => by simp only [List.map_cons, PyData.canLayAll0, pairD, PyData.canLay0, canLay_pairs cs, Bool.and_self]
theorem depth_pairs : ∀ xs : List (Int × Int), PyData.depthAll (xs.map pairD) ≤ 3
  | [] => by simp [PyData.depthAll]
  | c :: cs => by
    have := depth_pairs cs
    simp only [List.map_cons, PyData.depthAll, pairD, PyData.depth]
    omega
theorem shaped_nats (cs : List Nat) : SeqAt.shaped (natsD cs) = true := by
  have h1 := canLay_nats cs
  have h2 := depth_ints cs
  unfold SeqAt.shaped natsD
  refine Bool.and_eq_true_iff.mpr ⟨by simp only [PyData.canLay0, h1], decide_eq_true ?_⟩
  simp only [PyData.depth]
  omega
theorem eqv_nats (xs ys : List Nat) : PyData.eqv (natsD xs) (natsD ys) = decide (xs = ys) := by
  unfold natsD
  simp only [PyData.eqv]
  exact eqvAll_ints xs ys
theorem shaped_told (cs : List Nat) (ts : List (Int × Int)) : SeqAt.shaped (.list [natsD cs, pairsD ts]) = true := by
  have h1 := canLay_nats cs
  have h2 := depth_ints cs
  have h3 := canLay_pairs ts
  have h4 := depth_pairs ts
  unfold SeqAt.shaped natsD pairsD
  refine Bool.and_eq_true_iff.mpr ⟨by simp only [PyData.canLay0, PyData.canLayAll0, h1, h3, Bool.and_self], decide_eq_true ?_⟩
  simp only [PyData.depth, PyData.depthAll]
  omega
theorem eqv_told (cs : List Nat) (ts : List (Int × Int)) : PyData.eqv (.list [natsD cs, pairsD ts]) (.list [natsD cs, pairsD ts]) = true := by
  refine eqv_refl _ ?_
  have h1 := noDict_nats cs
  have h3 := noDict_pairs ts
  simp only [noDict, noDictAll, natsD, pairsD, h1, h3, Bool.and_self]
section
variable {P : Program} {w : World} {K : PySem.W.Frag} {mg : Str → Option Value} {base : Heap}
theorem if_no {t : TT} {tu tr : TS} {D : Ends} {σ : L2.St} {H : Hp} (P : Hp → Prop) (h : ∀ Q : Bool → Hp → Prop, (∀ H', P H' → Q false H') → t σ H Q) (h2 : ∀ H', P H' → tr D σ H') : tSeq (tIfS t tu tNext) tr D σ H :=
  h _ fun H' p => iteF (h2 H' p)
theorem decI (k : Nat) : decide (V.int ((k : Nat) : Int) = V.int 0) = decide (k = 0) := decide_eq_decide.mpr ⟨fun h => by injection h with h; omega, fun h => by rw [h]; rfl⟩
theorem asg_any {te : TE} {g : TG} {tr : TS} {D : Ends} {σ : L2.St} {H : Hp} (P : V → Hp → Prop) (h : ∀ Q : VK, (∀ v H', P v H' → Q v H') → te σ H Q) (h2 : ∀ v H', P v H' → g v σ H' (tr D)) : tSeq (tAsg te g) tr D σ H := h _ fun v H' p => h2 v H' p
theorem any_all {α : Type} (l : List α) (f : α → Bool) : (!l.any f) = l.all fun x => !f x := by
  rw [List.not_any_eq_all_not]
def sp_law (K : PySem.W.Frag) : Sp := fun vs H Q _ => ∃ (a : Addr) (ns : List Int), vs = [.ref a] ∧ SqL K H a (ns.map V.int) ∧ ∀ H', Q (.bl true) H'
theorem dpAll_snoc {H : Hp} : ∀ {vs : List V} {ds : List PyData} {v : V} {d : PyData}, DpAll K H vs ds → Dp K H v d → DpAll K H (vs ++ [v]) (ds ++ [d])
  | _, _, _, _, .nil, h => .cons h .nil
  | _, _, _, _, .cons a b, h => .cons a (dpAll_snoc b h)
theorem scal_oi (o : Option Int) : scal (oiV o) (oiV o) = true := by cases o <;> rfl
theorem okF {x : Str} {st : Stmt} {N ps : List Str} {k : Nat} {sp : Sp} {f : Addr} {fd : FuncData} (F : FunD K x x (defArgs st) (defBody st) (defScope st) [] [] f fd) (S : FnScope N ps (defScope st)) (len : ∀ vs H Q E, sp vs H Q E → vs.length = ps.length)
    (hbody : ∀ (cdv : Value) (A : Around) (outer : List Env) (s : Shared) (H : Hp) (vs : List V) (Q : VK) (E : XK), Room k (A.deeper (envOfC x (defScope st) s.heap.objs.size f cdv)) → sp vs H Q E →
      ∃ t, PSs (cxOf CX0 P w K mg base N x (defScope st) f cdv A outer s H E).nox (defBody st) t ∧ t { nx := fun _ H' => Q .non H', rt := Q } (start N vs) H) : FnOk P w K mg base CX0 (k + 1) f fd ps sp := by
  refine F.ok S len fun cdv A outer s H vs Q E hr h => ?_
  obtain ⟨t, h1, h2⟩ := hbody cdv A outer s H vs Q E hr h
  exact ⟨t, h1.nox, h2⟩
end
end Oa
namespace Oa
open PySem PySem.Spec PyProof.Rows L2 Oat
section
variable {K : PySem.W.Frag} {H : Hp} {a b : Addr} {xs ys : List V} {Q : VK}
/-! ### parts of tuples, tuples put together: what comes out -/
theorem slA_any {lo hi : Option Int} (h : SqT K H a xs) (q : ∀ p H', Same H H' → SqT K H' p (cutV xs lo hi) → Q (.ref p) H') : rSlA K (.ref a) lo hi H Q := by
  refine ⟨a, xs, rfl, h, fun c => ?_, fun _ p np => q p _ (same_new np) (sqt upd_same)⟩
  refine q a H (Same.refl _) ?_
  have e : cutV xs lo hi = xs := by
    unfold cutV
    rw [c.1, c.2, List.drop_zero, Nat.sub_zero, List.take_length]
  rw [e]
  exact h
theorem catA_any (h1 : SqT K H a xs) (h2 : SqT K H b ys) (hl : xs.length + ys.length ≤ sizeLine) (q : ∀ p H', Same H H' → SqT K H' p (xs ++ ys) → Q (.ref p) H') : rCatA K (.ref a) (.ref b) H Q := by
  refine ⟨a, b, xs, ys, rfl, rfl, h1, h2, hl, fun e => q b H (Same.refl _) (by rw [e]; exact h2), fun _ e => q a H (Same.refl _) (by rw [e, List.append_nil]; exact h1), fun _ _ p np => q p _ (same_new np) (sqt upd_same)⟩
theorem cutV_pre (p : Nat) (h : p ≤ xs.length) : cutV xs none (some ((p : Nat) : Int)) = xs.take p := by
  unfold cutV
  rw [HT.sIx_none, HT.sIx_nat, List.drop_zero, Nat.sub_zero, Nat.min_eq_left h]
theorem cutV_post (p : Nat) (h : p ≤ xs.length) : cutV xs (some ((p : Nat) : Int)) none = xs.drop p := by
  unfold cutV
  rw [HT.sIx_none, HT.sIx_nat, Nat.min_eq_left h, List.take_of_length_le (by rw [List.length_drop]; exact Nat.le_refl _)]
theorem take_set_drop {α : Type} {l : List α} {p : Nat} {x : α} (h : p < l.length) : l.take p ++ [x] ++ l.drop (p + 1) = l.set p x := by
  rw [List.set_eq_take_append_cons_drop, if_pos h, List.append_assoc]
  rfl
end
theorem pgTupK {X : Cx} (K : PySem.W.Frag) {es : List Expr} {k n : Nat} {t : TGs} {pos : Pos} (hc : X.calm = true) (h : PGs X es t)
    (hn : (assignEach es X.env).length = n := by rfl) (hst : (assignEach es X.env).findIdx? (·.1) = none := by rfl) (hK : X.K = K := by rfl) : PG X (.Tuple es k pos) (gTup K n t) := by
  subst hK
  exact pg_tup hc h hn hst
/-! ### calls by several keywords -/
section
variable (P : Program) (w : World) (K : PySem.W.Frag) (mg : Str → Option Value) (base : Heap)
def CalKs (CX : CXT) (k : Nat) (x : Str) (ps : List Str) (n : Nat) (ks : List Str) (sp : Sp) : Prop :=
  ∃ f fd, mg x = some (.ref f) ∧ PySem.W.keepIn K (.ref f) = true ∧ KBn K fd ps n ks (fun us ws => us ++ ws) (fun vs zs => vs ++ zs) ∧ FnOk P w K mg base CX k f fd ps sp
end
section
variable {P : Program} {w : World} {K : PySem.W.Frag} {mg : Str → Option Value} {base : Heap}
theorem calKs {CX : CXT} {x : Str} {kd : Str × V} {kds : List (Str × V)} {ks : List Str} {st : Stmt} {N ps : List Str} {k n : Nat} {sp : Sp} (D : Dfn K mg x st (kd :: kds)) (S : FnScope N ps (defScope st))
    (bk : ∀ (D : Addr) (doc pm : Value) (an : Option Addr) (cdv ct : Value) (us ws : List Value), us.length = n → ws.length = ks.length → bindArgs (PySem.W.fnOf x x (defArgs st) (defBody st) (defScope st) .none (.ref D) doc pm an cdv ct) ⟨us, ks.zip ws⟩ = pure (ps.zip (us ++ ws)))
    (len : ∀ vs H Q E, sp vs H Q E → vs.length = ps.length)
    (hbody : ∀ (f : Addr) (cdv : Value) (A : Around) (outer : List Env) (s : Shared) (H : Hp) (vs : List V) (Q : VK) (E : XK), Room k (A.deeper (envOfC x (defScope st) s.heap.objs.size f cdv)) → sp vs H Q E →
      ∃ t, PSs (cxOf CX P w K mg base N x (defScope st) f cdv A outer s H E) (defBody st) t ∧ t { nx := fun _ H' => Q .non H', rt := Q } (start N vs) H) : CalKs P w K mg base CX (k + 1) x ps n ks sp := by
  obtain ⟨f, fd, g, F⟩ := D
  refine ⟨f, fd, g, F.kp, ?_, F.ok S len fun cdv A outer s H vs Q E hr h => hbody f cdv A outer s H vs Q E hr h⟩
  obtain ⟨oc, od, dV, kV, doc, pm, an, cdv, ct, osl, rfl, lk, hcd, hD, hK⟩ := F.ex
  rcases hD with ⟨_, rfl⟩ | ⟨e, _⟩
  · rcases hK with e | ⟨D, rfl, hq⟩
    · cases e
    · exact ⟨fun s us ws _ l1 l2 => .of_eq (bk D doc pm an cdv ct us ws l1 l2), fun r1 r2 => r1.append r2⟩
  · exact absurd rfl e
end
section
variable {X : Cx} {CX : CXT} {k n : Nat} {x k1 k2 : Str} {ps : List Str} {sp : Sp} {e e1 e2 : Expr} {es : List Expr} {t : TA} {te1 te2 : TE} {p pos p1 p2 : Pos} {E : XK}
/-- f(e, .., k1 = v, k2 = u) -/
theorem pcallK2 (c : CalKs X.prog X.w X.K X.mg X.base CX k x ps n [k1, k2] sp) (hr : Room k X.A) (hx : Passes CX X E) (ha : PA X (e :: es) t) (h1 : PE X e1 te1) (h2 : PE X e2 te2) (hg : Gl X x := by rfl)
    (hall : (backToKw pos (keywordEach [⟨some k1, e1, p1⟩, ⟨some k2, e2, p2⟩] X.env)).all (·.1.isSome) = true := by rfl) (hks : (backToKw pos (keywordEach [⟨some k1, e1, p1⟩, ⟨some k2, e2, p2⟩] X.env)).filterMap (·.1) = [k1, k2] := by rfl)
    (hdb : (x == ("__debug__" : Str)) = false := by decide) (he : starEach (e :: es) X.env = (false, eval e X.env) :: starEach es X.env := by rfl)
    (hpl : ((backTo pos (starEach (e :: es) X.env)).any (·.1) || (backToKw pos (keywordEach [⟨some k1, e1, p1⟩, ⟨some k2, e2, p2⟩] X.env)).any (·.1.isNone)) = false := by rfl) :
    PE X (.Call (.Name x p) (e :: es) [⟨some k1, e1, p1⟩, ⟨some k2, e2, p2⟩] pos) (tCallN n 2 sp (fun vs zs => vs ++ zs) E t (tCons te1 (tCons te2 tNil))) := by
  obtain ⟨f, fd, g, kp, b, F⟩ := c
  exact pe_callN F hr hg g kp b hx ha (pk_cons h1 (pk_cons h2 pk_nil)) hall hks hdb he hpl
end
end Oa
namespace Oat
/-! ### the least sum over all partings -/
theorem rlt_le {a b : Int × List Nat} (h : rlt a b = true) : a.1 ≤ b.1 := by
  unfold rlt at h
  split at h
  · rename_i e; omega
  · have := of_decide_eq_true h; omega
theorem rlt_no {a b : Int × List Nat} (h : ¬ rlt a b = true) : b.1 ≤ a.1 := by
  unfold rlt at h
  split at h
  · rename_i e; omega
  · rename_i e
    have : ¬ a.1 < b.1 := fun z => h (decide_eq_true z)
    omega
theorem rmin_le (a b : Int × List Nat) : (rmin a b).1 ≤ a.1 ∧ (rmin a b).1 ≤ b.1 := by
  unfold rmin
  split
  · rename_i h; exact ⟨rlt_le h, Int.le_refl _⟩
  · rename_i h; exact ⟨Int.le_refl _, rlt_no h⟩
theorem dget_dput {α : Type} {a : α} : ∀ (F : List (Nat × α)) (k j : Nat), dget (dput F k a) j = if j = k then some a else dget F j
  | [], k, j => by
    simp only [dput, dget]
    by_cases h : j = k
    · subst h; simp
    · rw [if_neg (fun z => h z.symm), if_neg h]
  | (i, b) :: F, k, j => by
    simp only [dput]
    by_cases e : i = k
    · subst e
      rw [if_pos rfl]
      simp only [dget]
      by_cases h : i = j
      · subst h; simp
      · rw [if_neg h, if_neg h, if_neg (fun z => h z.symm)]
    · rw [if_neg e]
      simp only [dget]
      by_cases h : i = j
      · subst h
        rw [if_pos rfl, if_neg e, if_pos rfl]
      · rw [if_neg h, if_neg h]
        exact dget_dput F k j
def Has (F : Fnd) (k : Nat) (v : Int) : Prop := ∃ x, dget F k = some x ∧ x.1 ≤ v
theorem has_add {left used : Nat} {u : Int × List Nat} {acc : Fnd} {s : Nat × Int} {k : Nat} {v : Int} (h : Has acc k v) : Has (addRow left used u acc s) k v := by
  unfold addRow
  split
  · obtain ⟨x, hx, hv⟩ := h
    unfold Has
    rw [dget_dput]
    by_cases e : k = used + s.1
    · rw [if_pos e]
      refine ⟨_, rfl, Int.le_trans ?_ hv⟩
      rw [← e, hx]
      exact (rmin_le _ _).1
    · rw [if_neg e]
      exact ⟨x, hx, hv⟩
  · exact h
theorem has_new {left used : Nat} {u : Int × List Nat} {acc : Fnd} {s : Nat × Int} (h : used + s.1 ≤ left) : Has (addRow left used u acc s) (used + s.1) (u.1 + s.2) := by
  unfold addRow
  rw [if_pos h]
  unfold Has
  rw [dget_dput, if_pos rfl]
  exact ⟨_, rfl, (rmin_le _ _).2⟩
theorem has_inner {left used : Nat} {u : Int × List Nat} {k : Nat} {v : Int} : ∀ (t : List (Nat × Int)) (acc : Fnd), Has acc k v → Has (t.foldl (addRow left used u) acc) k v
  | [], _, h => h
  | _ :: t, _, h => has_inner t _ (has_add h)
theorem has_inner_new {left used : Nat} {u : Int × List Nat} {s : Nat × Int} (hle : used + s.1 ≤ left) : ∀ (t : List (Nat × Int)) (acc : Fnd), s ∈ t → Has (t.foldl (addRow left used u) acc) (used + s.1) (u.1 + s.2)
  | x :: t, acc, h => by
    rcases List.mem_cons.mp h with e | e
    · subst e
      exact has_inner t _ (has_new hle)
    · exact has_inner_new hle t _ e
theorem has_mid {left : Nat} {tb : List (Nat × Int)} {k : Nat} {v : Int} : ∀ (F acc : Fnd), Has acc k v → Has (F.foldl (fun acc e => tb.foldl (addRow left e.1 e.2) acc) acc) k v
  | [], _, h => h
  | _ :: F, _, h => has_mid F _ (has_inner tb _ h)
theorem has_mid_new {left : Nat} {tb : List (Nat × Int)} {e : Nat × (Int × List Nat)} {s : Nat × Int} (hs : s ∈ tb) (hle : e.1 + s.1 ≤ left) : ∀ (F acc : Fnd), e ∈ F → Has (F.foldl (fun acc e => tb.foldl (addRow left e.1 e.2) acc) acc) (e.1 + s.1) (e.2.1 + s.2)
  | x :: F, acc, h => by
    rcases List.mem_cons.mp h with z | z
    · subst z
      exact has_mid F _ (has_inner_new hle tb _ hs)
    · exact has_mid_new hs hle F _ z
theorem has_step {left : Nat} {F : Fnd} {tb : List (Nat × Int)} {n k : Nat} {s t : Int} (h : Has F n s) (hk : (k, t) ∈ tb) (hle : n + k ≤ left) : Has (stepBest left F tb) (n + k) (s + t) := by
  obtain ⟨x, hx, hv⟩ := h
  have hm := mem_dget hx
  obtain ⟨y, hy, hv2⟩ := has_mid_new (left := left) (e := (n, x)) (s := (k, t)) hk hle F [] hm
  exact ⟨y, hy, by dsimp only at hv2; omega⟩
theorem bestF_snoc (ts : List (List (Nat × Int))) (tb : List (Nat × Int)) (left : Nat) : bestF (ts ++ [tb]) left = stepBest left (bestF ts left) tb := by
  unfold bestF
  rw [List.foldl_append]
  rfl
theorem bestF_has {left : Nat} {ts : List (List (Nat × Int))} {part : List Nat} {s : Int} {n : Nat} (h : Parts ts part s n) : n ≤ left → Has (bestF ts left) n s := by
  induction h with
  | nil => intro _; exact ⟨(0, []), rfl, Int.le_refl _⟩
  | @snoc ts part s n tb k t h hm ih =>
    intro hl
    rw [bestF_snoc]
    exact has_step (ih (by omega)) hm hl
theorem rmin_foldl_le : ∀ (r : Fnd) (e : Int × List Nat), (r.foldl (fun m x => rmin m x.2) e).1 ≤ e.1 ∧ ∀ x ∈ r, (r.foldl (fun m x => rmin m x.2) e).1 ≤ x.2.1
  | [], e => ⟨Int.le_refl _, fun _ h => by cases h⟩
  | y :: r, e => by
    rw [List.foldl_cons]
    obtain ⟨h1, h2⟩ := rmin_foldl_le r (rmin e y.2)
    have h3 := rmin_le e y.2
    refine ⟨Int.le_trans h1 h3.1, fun x hx => ?_⟩
    rcases List.mem_cons.mp hx with z | z
    · rw [z]; exact Int.le_trans h1 h3.2
    · exact h2 x z
theorem best_le {left : Nat} {ts : List (List (Nat × Int))} {part : List Nat} {s : Int} {n : Nat} (h : Parts ts part s n) (hl : n ≤ left) : ∃ b, best ts left = some b ∧ b.1 ≤ s := by
  obtain ⟨x, hx, hv⟩ := bestF_has (left := left) h hl
  have hm := mem_dget hx
  unfold best
  cases hF : bestF ts left with
  | nil => rw [hF] at hm; cases hm
  | cons e r =>
    refine ⟨_, rfl, ?_⟩
    rw [hF] at hm
    obtain ⟨h1, h2⟩ := rmin_foldl_le r e.2
    rcases List.mem_cons.mp hm with z | z
    · rw [← z] at h1 ⊢
      exact Int.le_trans h1 hv
    · exact Int.le_trans (h2 _ z) hv
/-! ### rows of a table, the other way -/
theorem dget_of_mem {α : Type} {F : List (Nat × α)} {k : Nat} {a : α} (nd : (F.map (·.1)).Nodup) (h : (k, a) ∈ F) : dget F k = some a := by
  obtain ⟨i, hi⟩ := List.getElem?_of_mem h
  exact Oa.dget_at nd hi
theorem tab_get {c : Case} (wf : WfL c.L) {p e : Nat} (hp : p ≤ c.L.length) (he : e ≤ c.left) : dget (tab c p) e = Oat.rowOf c p ((kids c.L p).map fun k => takes (tab c k)) e := by
  cases h : Oat.rowOf c p ((kids c.L p).map fun k => takes (tab c k)) e with
  | none =>
    refine dget_none fun x hx => ?_
    rw [tab_eq wf hp, tabOf_up] at hx
    intro z
    have := (rowsUp_mem hx).2
    rw [z, h] at this
    cases this
  | some r =>
    refine dget_of_mem (tab_nd wf hp) ?_
    rw [tab_eq wf hp]
    unfold tabOf
    refine List.mem_filterMap.mpr ⟨e, List.mem_range.mpr (by omega), ?_⟩
    rw [h]
    rfl
theorem mem_takes {t : Tab} {k : Nat} {v : Int} : (k, v) ∈ takes t ↔ ∃ r, (k, r) ∈ t ∧ r.tk = v := by
  unfold takes
  rw [List.mem_map]
  constructor
  · rintro ⟨x, hx, e⟩
    injection e with e1 e2
    exact ⟨x.2, by rw [← e1]; exact hx, e2⟩
  · rintro ⟨r, hr, e⟩
    exact ⟨(k, r), hr, by rw [← e]⟩
/-- the least number of a table, and that it is one of it -/
theorem least_iff {c : Case} {v : Int} : least c = some v ↔ (∃ e r, (e, r) ∈ tab c 0 ∧ r.tk = v) ∧ ∀ e r, (e, r) ∈ tab c 0 → v ≤ r.tk := by
  unfold least
  constructor
  · intro h
    obtain ⟨m, hm, rfl⟩ := Option.map_eq_some_iff.mp h
    have hne : takes (tab c 0) ≠ [] := fun z => by rw [z] at hm; cases hm
    obtain ⟨n, e, h1, h2⟩ := bestL_some hne
    rw [hm] at e
    have e := Option.some.inj e
    subst e
    obtain ⟨r, hr, hv⟩ := mem_takes.mp h1
    refine ⟨⟨m.2, r, hr, hv⟩, fun e r hr => ?_⟩
    have := plt_no.mp (h2 (e, r.tk) (mem_takes.mpr ⟨r, hr, rfl⟩))
    dsimp only at this
    omega
  · rintro ⟨⟨e, r, hr, hv⟩, h2⟩
    have h1 := mem_takes.mpr ⟨r, hr, hv⟩
    have hne : takes (tab c 0) ≠ [] := fun z => by rw [z] at h1; cases h1
    obtain ⟨n, he, h3, h4⟩ := bestL_some hne
    rw [he]
    obtain ⟨r', hr', hv'⟩ := mem_takes.mp h3
    have a := h2 _ _ hr'
    have b := plt_no.mp (h4 _ h1)
    dsimp only at b
    show some n.1 = some v
    congr 1
    omega
/-! ### room for three: nothing is out of reach -/
theorem parts_zero : ∀ (ts : List (List (Nat × Int))), (∀ tb ∈ ts, ∃ v, (0, v) ∈ tb) → ∃ part s, Parts ts part s 0 := by
  intro ts
  have : ∀ (us ts : List (List (Nat × Int))), (∃ part s, Parts ts part s 0) → (∀ tb ∈ us, ∃ v, (0, v) ∈ tb) → ∃ part s, Parts (ts ++ us) part s 0 := by
    intro us
    induction us with
    | nil => intro ts h _; rw [List.append_nil]; exact h
    | cons u us ih =>
      intro ts ⟨part, s, h⟩ hu
      obtain ⟨v, hv⟩ := hu u List.mem_cons_self
      have := ih (ts ++ [u]) ⟨_, _, .snoc h hv⟩ fun tb htb => hu tb (List.mem_cons_of_mem _ htb)
      rw [List.append_assoc] at this
      exact this
  intro h
  exact this ts [] ⟨_, _, .nil⟩ h
theorem tab_zero {c : Case} (wf : WfL c.L) (h3 : 3 ≤ c.room) : ∀ (n p : Nat), c.L.length < n + p → p ≤ c.L.length → ∃ r, (0, r) ∈ tab c p
  | 0, p, h1, h2 => by omega
  | n + 1, p, h1, h2 => by
    obtain ⟨part, s, hP⟩ := parts_zero ((kids c.L p).map fun k => takes (tab c k)) fun tb htb => by
      obtain ⟨k, hk, rfl⟩ := List.mem_map.mp htb
      have hk2 := kids_gt wf hk
      obtain ⟨r, hr⟩ := tab_zero wf h3 n k (by omega) (by omega)
      exact ⟨r.tk, mem_takes.mpr ⟨r, hr, rfl⟩⟩
    obtain ⟨b, hb, _⟩ := best_le (left := 0) hP (Nat.le_refl _)
    have hg := tab_get (c := c) wf h2 (Nat.zero_le c.left)
    have hs : ∃ r, Oat.rowOf c p ((kids c.L p).map fun k => takes (tab c k)) 0 = some r := by
      unfold Oat.rowOf needOf
      rw [hb]
      show ∃ r, takenOf c p (b.1 + wantN c.W p, b.2) 0 = some r
      unfold takenOf
      split
      · exact ⟨_, rfl⟩
      · split
        · exact ⟨_, rfl⟩
        · unfold outF
          split
          · exact ⟨_, rfl⟩
          · rw [if_neg (by omega)]
            exact ⟨_, rfl⟩
    obtain ⟨r, hr⟩ := hs
    rw [hr] at hg
    exact ⟨r, mem_dget hg⟩
theorem least_room3 {c : Case} (wf : WfL c.L) (h3 : 3 ≤ c.room) : least c ≠ none := by
  intro h
  unfold least at h
  rw [Option.map_eq_none_iff, bestL_none] at h
  obtain ⟨r, hr⟩ := tab_zero wf h3 (c.L.length + 1) 0 (by omega) (Nat.zero_le _)
  have := mem_takes.mpr ⟨r, hr, rfl⟩
  rw [h] at this
  cases this
end Oat
namespace Oat
open PySem PyProof.Rows L2
/-! ### going out: the least count that is enough -/
theorem outF_spec {room e : Nat} {need o : Int} (hr : 2 ≤ room) (h : outF room need e = some o) : ((max e 1 : Nat) : Int) ≤ o ∧ need ≤ o * ((room : Int) - 2) + e ∧ ∀ o2 : Int, ((max e 1 : Nat) : Int) ≤ o2 → need ≤ o2 * ((room : Int) - 2) + e → o ≤ o2 := by
  have hpos := outF_pos hr h
  have hm : ((max e 1 : Nat) : Int) ≤ o := by omega
  unfold outF at h
  split at h
  · rename_i c
    have h := Option.some.inj h
    subst h
    exact ⟨Int.le_refl _, c, fun o2 h2 _ => h2⟩
  · rename_i c
    split at h
    · cases h
    · rename_i c2
      have h := Option.some.inj h
      have hp : (0 : Int) < (room : Int) - 2 := by omega
      have hne : (room : Int) - 2 ≠ 0 := by omega
      have h1 := Int.ediv_mul_le ((e : Int) - need) hne
      have ho : o = -(((e : Int) - need) / ((room : Int) - 2)) := h.symm
      have h2 : o * ((room : Int) - 2) = -((((e : Int) - need) / ((room : Int) - 2)) * ((room : Int) - 2)) := by rw [ho, Int.neg_mul]
      refine ⟨hm, by omega, fun o2 _ hn => ?_⟩
      have h3 : (-o2) * ((room : Int) - 2) ≤ (e : Int) - need := by rw [Int.neg_mul]; omega
      have h4 := (Int.le_ediv_iff_mul_le hp).mpr h3
      omega
theorem outF_ex {room e : Nat} {need o2 : Int} (hr : 2 ≤ room) (h1 : ((max e 1 : Nat) : Int) ≤ o2) (h2 : need ≤ o2 * ((room : Int) - 2) + e) : ∃ o, outF room need e = some o ∧ o ≤ o2 := by
  cases h : outF room need e with
  | some o => exact ⟨o, rfl, (outF_spec hr h).2.2 o2 h1 h2⟩
  | none =>
    unfold outF at h
    split at h
    · cases h
    · rename_i c
      split at h
      · rename_i c2
        subst c2
        exfalso
        apply c
        have e1 : ((2 : Nat) : Int) - 2 = 0 := rfl
        rw [e1, Int.mul_zero] at h2 ⊢
        exact h2
      · cases h
/-! ### tables beside tables -/
def TLe (t t' : List (Nat × Int)) : Prop := ∀ k v', (k, v') ∈ t' → ∃ v, (k, v) ∈ t ∧ v ≤ v'
theorem paired_snoc_inv {α β : Type} {R : α → β → Prop} : ∀ {xs : List α} {ys : List β} {y : β}, Paired R xs (ys ++ [y]) → ∃ xs' x, xs = xs' ++ [x] ∧ Paired R xs' ys ∧ R x y
  | _, [], y, .cons a .nil => ⟨[], _, rfl, .nil, a⟩
  | _, z :: ys, y, .cons a b => by
    obtain ⟨xs', x, e, h1, h2⟩ := paired_snoc_inv b
    exact ⟨_ :: xs', x, by rw [e]; rfl, .cons a h1, h2⟩
theorem parts_mono {ts' : List (List (Nat × Int))} {part : List Nat} {s' : Int} {n : Nat} (h : Parts ts' part s' n) : ∀ {ts : List (List (Nat × Int))}, Paired TLe ts ts' → ∃ s, Parts ts part s n ∧ s ≤ s' := by
  induction h with
  | nil => intro ts hp; cases hp; exact ⟨0, .nil, Int.le_refl _⟩
  | @snoc ts' part s n tb k t h hm ih =>
    intro ts hp
    obtain ⟨us, u, rfl, h1, h2⟩ := paired_snoc_inv hp
    obtain ⟨s1, hs1, hle⟩ := ih h1
    obtain ⟨v, hv, hvle⟩ := h2 k t hm
    exact ⟨s1 + v, .snoc hs1 hv, by omega⟩
theorem best_mono {ts ts' : List (List (Nat × Int))} {e : Nat} {b' : Int × List Nat} (hp : Paired TLe ts ts') (h : best ts' e = some b') : ∃ b, best ts e = some b ∧ b.1 ≤ b'.1 := by
  obtain ⟨n, hn, hP⟩ := best_parts h
  obtain ⟨s, hs, hle⟩ := parts_mono hP hp
  obtain ⟨b, hb, hb2⟩ := best_le hs hn
  exact ⟨b, hb, by omega⟩
theorem paired_maps {α β γ : Type} {R : β → γ → Prop} {f : α → β} {g : α → γ} : ∀ (l : List α), (∀ x ∈ l, R (f x) (g x)) → Paired R (l.map f) (l.map g)
  | [], _ => .nil
  | x :: l, h => .cons (h x List.mem_cons_self) (paired_maps l fun y hy => h y (List.mem_cons_of_mem _ hy))
/-! ### rows: what is taken -/
theorem mem_tab {c : Case} (wf : WfL c.L) {p e : Nat} {r : TRow} (hp : p ≤ c.L.length) : (e, r) ∈ tab c p ↔ e ≤ c.left ∧ Oat.rowOf c p ((kids c.L p).map fun k => takes (tab c k)) e = some r := by
  constructor
  · intro h
    exact tab_row wf hp (dget_of_mem (tab_nd wf hp) h)
  · rintro ⟨h1, h2⟩
    exact mem_dget ((tab_get wf hp h1).trans h2)
theorem row_some {c : Case} {p e : Nat} {ts : List (List (Nat × Int))} {r : TRow} (h : Oat.rowOf c p ts e = some r) : ∃ b, best ts e = some b ∧ takenOf c p (b.1 + wantN c.W p, b.2) e = some r := by
  unfold Oat.rowOf needOf at h
  cases hb : best ts e with
  | none => rw [hb] at h; cases h
  | some b => rw [hb] at h; exact ⟨b, rfl, h⟩
theorem row_of {c : Case} {p e : Nat} {ts : List (List (Nat × Int))} {b : Int × List Nat} (h : best ts e = some b) : Oat.rowOf c p ts e = takenOf c p (b.1 + wantN c.W p, b.2) e := by
  unfold Oat.rowOf needOf
  rw [h]
  rfl
theorem wantN_nn (W : List (Option Nat)) (p : Nat) : 0 ≤ wantN W p := by
  unfold wantN
  split <;> omega
theorem parts_nn {ts : List (List (Nat × Int))} {part : List Nat} {s : Int} {n : Nat} (h : Parts ts part s n) : (∀ tb ∈ ts, ∀ k v, (k, v) ∈ tb → 0 ≤ v) → 0 ≤ s := by
  induction h with
  | nil => intro _; exact Int.le_refl _
  | @snoc ts part s n tb k t h hm ih =>
    intro hn
    have h1 := ih fun tb' ht => hn tb' (List.mem_append_left _ ht)
    have h2 := hn tb (List.mem_append_right _ List.mem_cons_self) k t hm
    omega
theorem taken_nn {c : Case} {p e : Nat} {n : Int × List Nat} {r : TRow} (h2 : 2 ≤ c.room) (hn : 0 ≤ n.1) (h : takenOf c p n e = some r) : 0 ≤ r.tk := by
  unfold takenOf at h
  split at h
  · rw [← Option.some.inj h]; exact hn
  · split at h
    · rw [← Option.some.inj h]; exact Int.le_refl _
    · obtain ⟨o, ho, rfl⟩ := Option.map_eq_some_iff.mp h
      have := outF_pos h2 ho
      show 0 ≤ n.1 + 2 * o - (e : Int)
      omega
theorem tab_nn {c : Case} (wf : WfL c.L) (h2 : 2 ≤ c.room) : ∀ (n p : Nat), c.L.length < n + p → p ≤ c.L.length → ∀ k v, (k, v) ∈ takes (tab c p) → 0 ≤ v
  | 0, p, h, hp => by omega
  | n + 1, p, h, hp => by
    intro k v hv
    obtain ⟨r, hr, rfl⟩ := mem_takes.mp hv
    obtain ⟨b, hb, ht⟩ := row_some ((mem_tab wf hp).mp hr).2
    obtain ⟨m, _, hP⟩ := best_parts hb
    have h0 := parts_nn hP fun tb htb => by
      obtain ⟨q, hq, rfl⟩ := List.mem_map.mp htb
      have hq2 := kids_gt wf hq
      exact tab_nn wf h2 n q (by omega) (by omega)
    have hw := wantN_nn c.W p
    exact taken_nn h2 (by show 0 ≤ b.1 + wantN c.W p; omega) ht
/-! ### less wanted, more room, more carts that may be left -/
structure Below (c c' : Case) : Prop where
  l : c.L = c'.L
  lf : c'.left ≤ c.left
  rm : c'.room ≤ c.room
  r2 : 2 ≤ c'.room
  wn : ∀ p, wantN c.W p ≤ wantN c'.W p
  ws : ∀ p, (c.W.getD p none).isSome = true → (c'.W.getD p none).isSome = true
theorem wantedF_mono {L : List Nat} {W W' : List (Option Nat)} (h : ∀ p, (W.getD p none).isSome = true → (W'.getD p none).isSome = true) : ∀ (f p : Nat), wantedF L W f p = true → wantedF L W' f p = true
  | 0, p, hw => h p hw
  | f + 1, p, hw => by
    unfold wantedF at hw ⊢
    rcases Bool.or_eq_true_iff.mp hw with z | z
    · exact Bool.or_eq_true_iff.mpr (.inl (h p z))
    · obtain ⟨k, hk, hz⟩ := List.any_eq_true.mp z
      exact Bool.or_eq_true_iff.mpr (.inr (List.any_eq_true.mpr ⟨k, hk, wantedF_mono h f k hz⟩))
theorem wanted_mono {L : List Nat} {W W' : List (Option Nat)} (h : ∀ p, (W.getD p none).isSome = true → (W'.getD p none).isSome = true) {p : Nat} (hw : wanted L W p = true) : wanted L W' p = true := wantedF_mono h _ p hw
theorem tab_mono {c c' : Case} (B : Below c c') (wf : WfL c'.L) : ∀ (n p : Nat), c'.L.length < n + p → p ≤ c'.L.length → TLe (takes (tab c p)) (takes (tab c' p))
  | 0, p, h, hp => by omega
  | n + 1, p, h, hp => by
    have wfc : WfL c.L := by rw [B.l]; exact wf
    have hpc : p ≤ c.L.length := by rw [B.l]; exact hp
    intro e v' hv'
    have hnn := tab_nn wf B.r2 (c'.L.length + 1) p (by omega) hp e v' hv'
    obtain ⟨r', hr', rfl⟩ := mem_takes.mp hv'
    obtain ⟨he, hrow⟩ := (mem_tab wf hp).mp hr'
    obtain ⟨b', hb', ht'⟩ := row_some hrow
    have hpair : Paired TLe ((kids c.L p).map fun k => takes (tab c k)) ((kids c'.L p).map fun k => takes (tab c' k)) := by
      rw [B.l]
      refine paired_maps _ fun k hk => ?_
      have hk2 := kids_gt wf hk
      exact tab_mono B wf n k (by omega) (by omega)
    obtain ⟨b, hb, hle⟩ := best_mono hpair hb'
    have hw := B.wn p
    have key : ∃ r, takenOf c p (b.1 + wantN c.W p, b.2) e = some r ∧ r.tk ≤ r'.tk := by
      unfold takenOf at ht' ⊢
      by_cases h0 : p = 0
      · rw [if_pos h0] at ht' ⊢
        rw [← Option.some.inj ht']
        exact ⟨_, rfl, by show b.1 + wantN c.W p ≤ b'.1 + wantN c'.W p; omega⟩
      · rw [if_neg h0] at ht' ⊢
        by_cases hc : e = 0 ∧ wanted c.L c.W p = false
        · rw [if_pos hc]
          exact ⟨_, rfl, hnn⟩
        · rw [if_neg hc]
          have hc' : ¬ (e = 0 ∧ wanted c'.L c'.W p = false) := fun z => hc ⟨z.1, by
            cases hx : wanted c.L c.W p with
            | false => rfl
            | true =>
              have := wanted_mono B.ws (L := c.L) hx
              rw [B.l, z.2] at this
              cases this⟩
          rw [if_neg hc'] at ht'
          obtain ⟨o', ho', rfl⟩ := Option.map_eq_some_iff.mp ht'
          obtain ⟨g1, g2, _⟩ := outF_spec B.r2 ho'
          have g2 : b'.1 + wantN c'.W p ≤ o' * ((c'.room : Int) - 2) + e := g2
          have hrm := B.rm
          have hr2 := B.r2
          have hmul : o' * ((c'.room : Int) - 2) ≤ o' * ((c.room : Int) - 2) := Int.mul_le_mul_of_nonneg_left (by omega) (by omega)
          obtain ⟨o, ho, hoo⟩ := outF_ex (room := c.room) (e := e) (need := b.1 + wantN c.W p) (o2 := o') (by omega) g1 (by omega)
          refine ⟨_, by rw [ho]; rfl, ?_⟩
          show b.1 + wantN c.W p + 2 * o - e ≤ b'.1 + wantN c'.W p + 2 * o' - e
          omega
    obtain ⟨r, hr, hrle⟩ := key
    refine ⟨r.tk, mem_takes.mpr ⟨r, (mem_tab wfc hpc).mpr ⟨by have := B.lf; omega, (row_of hb).trans hr⟩, rfl⟩, hrle⟩
theorem least_mono {c c' : Case} (B : Below c c') (wf : WfL c'.L) {x' : Int} (h : least c' = some x') : ∃ x, least c = some x ∧ x ≤ x' := by
  obtain ⟨⟨e, r', hr', rfl⟩, _⟩ := least_iff.mp h
  obtain ⟨v, hv, hle⟩ := tab_mono B wf (c'.L.length + 1) 0 (by omega) (Nat.zero_le _) e r'.tk (mem_takes.mpr ⟨r', hr', rfl⟩)
  obtain ⟨r, hr, rfl⟩ := mem_takes.mp hv
  cases hl : least c with
  | none =>
    unfold least at hl
    rw [Option.map_eq_none_iff, bestL_none] at hl
    rw [hl] at hv
    cases hv
  | some x => exact ⟨x, rfl, Int.le_trans ((least_iff.mp hl).2 _ _ hr) hle⟩
/-! ### no cart left: wants apart need no less than together -/
theorem parts_zero_keys {ts : List (List (Nat × Int))} {part : List Nat} {s : Int} {n : Nat} (h : Parts ts part s n) : n = 0 → (∀ tb ∈ ts, ∀ v, (0, v) ∈ tb → v = 0) → s = 0 := by
  induction h with
  | nil => intro _ _; rfl
  | @snoc ts part s n tb k t h hm ih =>
    intro h0 hz
    have hk : k = 0 := by omega
    subst hk
    have h1 := ih (by omega) fun tb' ht => hz tb' (List.mem_append_left _ ht)
    have h2 := hz tb (List.mem_append_right _ List.mem_cons_self) t hm
    omega
theorem parts_add {ts1 : List (List (Nat × Int))} {p1 : List Nat} {s1 : Int} {n1 : Nat} (h : Parts ts1 p1 s1 n1) : n1 = 0 → ∀ {ts2 ts : List (List (Nat × Int))} {p2 : List Nat} {s2 : Int}, Parts ts2 p2 s2 0 → ts1.length = ts2.length → ts.length = ts1.length →
    (∀ (i : Nat) (t1 t2 t : List (Nat × Int)) (v1 v2 : Int), ts1[i]? = some t1 → ts2[i]? = some t2 → ts[i]? = some t → (0, v1) ∈ t1 → (0, v2) ∈ t2 → ∃ v, (0, v) ∈ t ∧ v ≤ v1 + v2) → ∃ part s, Parts ts part s 0 ∧ s ≤ s1 + s2 := by
  induction h with
  | nil =>
    intro _ ts2 ts p2 s2 h2 hl hl2 _
    have e2 : ts2 = [] := List.length_eq_zero_iff.mp hl.symm
    have e : ts = [] := List.length_eq_zero_iff.mp hl2
    subst e2
    subst e
    have : s2 = 0 := parts_zero_keys h2 rfl (fun tb ht => by cases ht)
    exact ⟨_, _, .nil, by omega⟩
  | @snoc ts1 p1 s1 n1 tb1 k1 t1 h1 hm1 ih =>
    intro h0 ts2 ts p2 s2 h2 hl hl2 hadd
    have hk1 : k1 = 0 := by omega
    subst hk1
    have hn1 : n1 = 0 := by omega
    generalize hz : (0 : Nat) = z at h2
    cases h2 with
    | nil => simp at hl
    | @snoc us2 q2 r2 m2 tb2 k2 t2 g2 hm2 =>
      have hk2 : k2 = 0 := by omega
      subst hk2
      have hm20 : m2 = 0 := by omega
      subst hm20
      have hlen : ts1.length = us2.length := by simpa using hl
      obtain ⟨us, u, rfl⟩ : ∃ us u, ts = us ++ [u] := by
        have hne : ts ≠ [] := fun z => by rw [z] at hl2; simp at hl2
        exact ⟨ts.dropLast, ts.getLast hne, (List.dropLast_concat_getLast hne).symm⟩
      have hlen2 : us.length = ts1.length := by simpa using hl2
      obtain ⟨part, s, hP, hs⟩ := ih hn1 (ts := us) g2 hlen hlen2 fun i a b c v1 v2 ha hb hc m1 m2 => by
        have hi : i < ts1.length := (List.getElem?_eq_some_iff.mp ha).1
        exact hadd i a b c v1 v2 (by rw [List.getElem?_append_left hi]; exact ha) (by rw [List.getElem?_append_left (by omega)]; exact hb) (by rw [List.getElem?_append_left (by omega)]; exact hc) m1 m2
      obtain ⟨v, hv, hvle⟩ := hadd ts1.length tb1 tb2 u t1 t2 (by rw [List.getElem?_append_right (Nat.le_refl _), Nat.sub_self]; rfl) (by rw [hlen, List.getElem?_append_right (Nat.le_refl _), Nat.sub_self]; rfl) (by rw [← hlen2, List.getElem?_append_right (Nat.le_refl _), Nat.sub_self]; rfl) hm1 hm2
      exact ⟨_, _, .snoc hP hv, by omega⟩
end Oat
namespace Oat
open PySem PyProof.Rows L2
/-! ### wants apart, no cart left -/
structure Apart (c1 c2 c : Case) : Prop where
  l1 : c1.L = c.L
  l2 : c2.L = c.L
  r1 : c1.room = c.room
  r2 : c2.room = c.room
  rr : 2 ≤ c.room
  wn : ∀ p, wantN c.W p ≤ wantN c1.W p + wantN c2.W p
  ws : ∀ p, (c.W.getD p none).isSome = true → (c1.W.getD p none).isSome = true ∨ (c2.W.getD p none).isSome = true
theorem wantedF_apart {L : List Nat} {W W1 W2 : List (Option Nat)} (h : ∀ p, (W.getD p none).isSome = true → (W1.getD p none).isSome = true ∨ (W2.getD p none).isSome = true) : ∀ (f p : Nat), wantedF L W f p = true → wantedF L W1 f p = true ∨ wantedF L W2 f p = true
  | 0, p, hw => h p hw
  | f + 1, p, hw => by
    unfold wantedF at hw ⊢
    rcases Bool.or_eq_true_iff.mp hw with z | z
    · rcases h p z with y | y
      · exact .inl (Bool.or_eq_true_iff.mpr (.inl y))
      · exact .inr (Bool.or_eq_true_iff.mpr (.inl y))
    · obtain ⟨k, hk, hz⟩ := List.any_eq_true.mp z
      rcases wantedF_apart h f k hz with y | y
      · exact .inl (Bool.or_eq_true_iff.mpr (.inr (List.any_eq_true.mpr ⟨k, hk, y⟩)))
      · exact .inr (Bool.or_eq_true_iff.mpr (.inr (List.any_eq_true.mpr ⟨k, hk, y⟩)))
theorem not_wanted {L : List Nat} {W : List (Option Nat)} (wf : WfL L) {p : Nat} (hp : p ≤ L.length) (h : wanted L W p = false) : wantN W p = 0 ∧ ∀ k ∈ kids L p, wanted L W k = false := by
  rw [wanted_eq wf hp] at h
  obtain ⟨h1, h2⟩ := Bool.or_eq_false_iff.mp h
  refine ⟨?_, fun k hk => ?_⟩
  · unfold wantN
    cases e : W.getD p none with
    | none => rfl
    | some u => rw [e] at h1; cases h1
  · have := List.any_eq_false.mp h2 k hk
    simpa using this
/-- nothing wanted there and behind, no cart left: nothing is taken, nothing needed -/
theorem zero_row {c : Case} (wf : WfL c.L) {p : Nat} (hp : p ≤ c.L.length) (h0 : p ≠ 0) (h : wanted c.L c.W p = false) {v : Int} (hv : (0, v) ∈ takes (tab c p)) : v = 0 := by
  obtain ⟨r, hr, rfl⟩ := mem_takes.mp hv
  obtain ⟨b, hb, ht⟩ := row_some ((mem_tab wf hp).mp hr).2
  unfold takenOf at ht
  rw [if_neg h0, if_pos ⟨rfl, h⟩] at ht
  rw [← Option.some.inj ht]
theorem zero_need {c : Case} (wf : WfL c.L) {p : Nat} (hp : p ≤ c.L.length) (h : wanted c.L c.W p = false) {b : Int × List Nat} (hb : best ((kids c.L p).map fun k => takes (tab c k)) 0 = some b) : b.1 + wantN c.W p = 0 := by
  obtain ⟨h1, h2⟩ := not_wanted wf hp h
  obtain ⟨n, hn, hP⟩ := best_parts hb
  have : b.1 = 0 := parts_zero_keys hP (by omega) fun tb htb v hv => by
    obtain ⟨q, hq, rfl⟩ := List.mem_map.mp htb
    have hq2 := kids_gt wf hq
    exact zero_row wf hq2.2 (by omega) (h2 q hq) hv
  omega
theorem tab_apart {c1 c2 c : Case} (A : Apart c1 c2 c) (wf : WfL c.L) : ∀ (n p : Nat), c.L.length < n + p → p ≤ c.L.length → ∀ v1 v2, (0, v1) ∈ takes (tab c1 p) → (0, v2) ∈ takes (tab c2 p) → ∃ v, (0, v) ∈ takes (tab c p) ∧ v ≤ v1 + v2
  | 0, p, h, hp => by omega
  | n + 1, p, h, hp => by
    have wf1 : WfL c1.L := by rw [A.l1]; exact wf
    have wf2 : WfL c2.L := by rw [A.l2]; exact wf
    have hp1 : p ≤ c1.L.length := by rw [A.l1]; exact hp
    have hp2 : p ≤ c2.L.length := by rw [A.l2]; exact hp
    intro v1 v2 hv1 hv2
    have n1 := tab_nn wf1 (by rw [A.r1]; exact A.rr) (c1.L.length + 1) p (by omega) hp1 0 v1 hv1
    have n2 := tab_nn wf2 (by rw [A.r2]; exact A.rr) (c2.L.length + 1) p (by omega) hp2 0 v2 hv2
    obtain ⟨r1, hr1, rfl⟩ := mem_takes.mp hv1
    obtain ⟨r2, hr2, rfl⟩ := mem_takes.mp hv2
    obtain ⟨b1, hb1, ht1⟩ := row_some ((mem_tab wf1 hp1).mp hr1).2
    obtain ⟨b2, hb2, ht2⟩ := row_some ((mem_tab wf2 hp2).mp hr2).2
    obtain ⟨m1, hm1, hP1⟩ := best_parts hb1
    obtain ⟨m2, hm2, hP2⟩ := best_parts hb2
    have e1 : m1 = 0 := by omega
    have e2 : m2 = 0 := by omega
    subst e1
    subst e2
    obtain ⟨part, s, hP, hs⟩ := parts_add hP1 rfl (ts := (kids c.L p).map fun k => takes (tab c k)) hP2 (by simp [A.l1, A.l2]) (by simp [A.l1]) fun i t1 t2 t w1 w2 g1 g2 g m1 m2 => by
      rw [A.l1, List.getElem?_map] at g1
      rw [A.l2, List.getElem?_map] at g2
      rw [List.getElem?_map] at g
      obtain ⟨q, hq, rfl⟩ := Option.map_eq_some_iff.mp g
      rw [hq] at g1 g2
      have g1 := Option.some.inj g1
      have g2 := Option.some.inj g2
      subst g1
      subst g2
      have hq2 := kids_gt wf (List.mem_of_getElem? hq)
      exact tab_apart A wf n q (by omega) (by omega) w1 w2 m1 m2
    obtain ⟨b, hb, hbs⟩ := best_le (left := 0) hP (Nat.le_refl _)
    have hw := A.wn p
    have key : ∃ r, takenOf c p (b.1 + wantN c.W p, b.2) 0 = some r ∧ r.tk ≤ r1.tk + r2.tk := by
      unfold takenOf at ht1 ht2 ⊢
      by_cases h0 : p = 0
      · rw [if_pos h0] at ht1 ht2 ⊢
        rw [← Option.some.inj ht1, ← Option.some.inj ht2]
        exact ⟨_, rfl, by show b.1 + wantN c.W p ≤ b1.1 + wantN c1.W p + (b2.1 + wantN c2.W p); omega⟩
      · rw [if_neg h0] at ht1 ht2 ⊢
        by_cases hc : (0 : Nat) = 0 ∧ wanted c.L c.W p = false
        · rw [if_pos hc]
          exact ⟨_, rfl, by show (0 : Int) ≤ _; omega⟩
        · rw [if_neg hc]
          have hcw : wanted c.L c.W p = true := by
            cases hx : wanted c.L c.W p with
            | true => rfl
            | false => exact absurd ⟨rfl, hx⟩ hc
          have hrr := A.rr
          have out : ∀ (o2 : Int), 1 ≤ o2 → b.1 + wantN c.W p ≤ o2 * ((c.room : Int) - 2) → ∃ o, outF c.room (b.1 + wantN c.W p) 0 = some o ∧ o ≤ o2 := fun o2 g1 g2 => outF_ex hrr (by simpa using g1) (by simpa using g2)
          have fin : ∀ o2 : Int, 1 ≤ o2 → b.1 + wantN c.W p ≤ o2 * ((c.room : Int) - 2) → b.1 + wantN c.W p + 2 * o2 ≤ r1.tk + r2.tk → ∃ r, ((outF c.room (b.1 + wantN c.W p) 0).map fun o => (⟨b.1 + wantN c.W p + 2 * o - ((0 : Nat) : Int), o, o - ((0 : Nat) : Int), b.2⟩ : TRow)) = some r ∧ r.tk ≤ r1.tk + r2.tk := fun o2 g1 g2 g3 => by
            obtain ⟨o, ho, hoo⟩ := out o2 g1 g2
            refine ⟨_, by rw [ho]; rfl, ?_⟩
            show b.1 + wantN c.W p + 2 * o - ((0 : Nat) : Int) ≤ _
            have : ((0 : Nat) : Int) = 0 := rfl
            omega
          have side : ∀ {ci : Case} {bi : Int × List Nat} {ri : TRow}, ci.L = c.L → ci.room = c.room → wanted ci.L ci.W p = true →
              (if (0 : Nat) = 0 ∧ wanted ci.L ci.W p = false then some (⟨0, 0, 0, bi.2⟩ : TRow) else (outF ci.room (bi.1 + wantN ci.W p) 0).map fun o => ⟨bi.1 + wantN ci.W p + 2 * o - ((0 : Nat) : Int), o, o - ((0 : Nat) : Int), bi.2⟩) = some ri →
              ∃ o : Int, 1 ≤ o ∧ bi.1 + wantN ci.W p ≤ o * ((c.room : Int) - 2) ∧ ri.tk = bi.1 + wantN ci.W p + 2 * o := by
            intro ci bi ri _ hrm hwi hti
            rw [if_neg (fun z => by rw [hwi] at z; cases z.2)] at hti
            obtain ⟨o, ho, rfl⟩ := Option.map_eq_some_iff.mp hti
            rw [hrm] at ho
            obtain ⟨g1, g2, _⟩ := outF_spec hrr ho
            refine ⟨o, by simpa using g1, by simpa using g2, ?_⟩
            show bi.1 + wantN ci.W p + 2 * o - ((0 : Nat) : Int) = _
            have : ((0 : Nat) : Int) = 0 := rfl
            omega
          have none_ : ∀ {ci : Case} {bi : Int × List Nat} {ri : TRow}, WfL ci.L → p ≤ ci.L.length → best ((kids ci.L p).map fun k => takes (tab ci k)) 0 = some bi → wanted ci.L ci.W p = false →
              (if (0 : Nat) = 0 ∧ wanted ci.L ci.W p = false then some (⟨0, 0, 0, bi.2⟩ : TRow) else (outF ci.room (bi.1 + wantN ci.W p) 0).map fun o => ⟨bi.1 + wantN ci.W p + 2 * o - ((0 : Nat) : Int), o, o - ((0 : Nat) : Int), bi.2⟩) = some ri →
              ri.tk = 0 ∧ bi.1 + wantN ci.W p = 0 := by
            intro ci bi ri wfi hpi hbi hwi hti
            rw [if_pos ⟨rfl, hwi⟩] at hti
            rw [← Option.some.inj hti]
            exact ⟨rfl, zero_need wfi hpi hwi hbi⟩
          cases x1 : wanted c1.L c1.W p with
          | true =>
            obtain ⟨o1, g1, g2, g3⟩ := side A.l1 A.r1 x1 ht1
            cases x2 : wanted c2.L c2.W p with
            | true =>
              obtain ⟨o2, k1, k2, k3⟩ := side A.l2 A.r2 x2 ht2
              have hmul : (o1 + o2) * ((c.room : Int) - 2) = o1 * ((c.room : Int) - 2) + o2 * ((c.room : Int) - 2) := Int.add_mul _ _ _
              exact fin (o1 + o2) (by omega) (by omega) (by omega)
            | false =>
              obtain ⟨k1, k2⟩ := none_ wf2 hp2 hb2 x2 ht2
              exact fin o1 g1 (by omega) (by omega)
          | false =>
            obtain ⟨g1, g2⟩ := none_ wf1 hp1 hb1 x1 ht1
            cases x2 : wanted c2.L c2.W p with
            | true =>
              obtain ⟨o2, k1, k2, k3⟩ := side A.l2 A.r2 x2 ht2
              exact fin o2 k1 (by omega) (by omega)
            | false =>
              exfalso
              have hF : wantedF c.L c.W c.L.length p = true := hcw
              rcases wantedF_apart A.ws _ p hF with y | y
              · have : wanted c1.L c1.W p = true := by rw [A.l1]; exact y
                rw [x1] at this
                cases this
              · have : wanted c2.L c2.W p = true := by rw [A.l2]; exact y
                rw [x2] at this
                cases this
    obtain ⟨r, hr, hle⟩ := key
    exact ⟨r.tk, mem_takes.mpr ⟨r, (mem_tab wf hp).mpr ⟨Nat.zero_le _, (row_of hb).trans hr⟩, rfl⟩, hle⟩
theorem least_apart {c1 c2 c : Case} (A : Apart c1 c2 c) (wf : WfL c.L) (z1 : c1.left = 0) (z2 : c2.left = 0) {x1 x2 : Int} (h1 : least c1 = some x1) (h2 : least c2 = some x2) : ∃ x, least c = some x ∧ x ≤ x1 + x2 := by
  obtain ⟨⟨e1, r1, hr1, rfl⟩, _⟩ := least_iff.mp h1
  obtain ⟨⟨e2, r2, hr2, rfl⟩, _⟩ := least_iff.mp h2
  have wf1 : WfL c1.L := by rw [A.l1]; exact wf
  have wf2 : WfL c2.L := by rw [A.l2]; exact wf
  have g1 := ((mem_tab wf1 (Nat.zero_le _)).mp hr1).1
  have g2 := ((mem_tab wf2 (Nat.zero_le _)).mp hr2).1
  have e1 : e1 = 0 := by omega
  have e2 : e2 = 0 := by omega
  subst e1
  subst e2
  obtain ⟨v, hv, hle⟩ := tab_apart A wf (c.L.length + 1) 0 (by omega) (Nat.zero_le _) r1.tk r2.tk (mem_takes.mpr ⟨r1, hr1, rfl⟩) (mem_takes.mpr ⟨r2, hr2, rfl⟩)
  obtain ⟨r, hr, rfl⟩ := mem_takes.mp hv
  cases hl : least c with
  | none =>
    unfold least at hl
    rw [Option.map_eq_none_iff, bestL_none] at hl
    rw [hl] at hv
    cases hv
  | some x => exact ⟨x, rfl, Int.le_trans ((least_iff.mp hl).2 _ _ hr) hle⟩
end Oat
namespace Oat
open PySem PyProof.Rows L2
/-! ### sums -/
theorem sum_snocI (l : List Int) (x : Int) : (l ++ [x]).sum = l.sum + x := by
  rw [List.sum_append]
  simp
theorem sum_snocN (l : List Nat) (x : Nat) : (l ++ [x]).sum = l.sum + x := by
  rw [List.sum_append]
  simp
theorem sum_add {α : Type} (f g : α → Int) : ∀ l : List α, (l.map fun x => f x + g x).sum = (l.map f).sum + (l.map g).sum
  | [] => rfl
  | x :: l => by
    simp only [List.map_cons, List.sum_cons, sum_add f g l]
    omega
theorem sum_pick (x : Nat) (v : Int) : ∀ m : Nat, ((List.range m).map fun p => if x = p then v else 0).sum = if x < m then v else 0
  | 0 => by simp
  | m + 1 => by
    rw [List.range_succ, List.map_append, List.map_singleton, sum_snocI, sum_pick x v m]
    by_cases h : x < m
    · rw [if_pos h, if_neg (by omega), if_pos (by omega), Int.add_zero]
    · rw [if_neg h]
      by_cases h2 : x = m
      · rw [if_pos h2, if_pos (by omega), Int.zero_add]
      · rw [if_neg h2, if_neg (by omega), Int.zero_add]
theorem kids_snoc (L : List Nat) (x p : Nat) : kids (L ++ [x]) p = kids L p ++ if x = p then [L.length + 1] else [] := by
  unfold kids
  rw [List.length_append, List.length_singleton, List.range_succ, List.filter_append, List.map_append]
  congr 1
  · congr 1
    refine List.filter_congr fun i hi => ?_
    have hi := List.mem_range.mp hi
    rw [List.getD_eq_getElem?_getD, List.getElem?_append_left hi, ← List.getD_eq_getElem?_getD]
  · have e : (L ++ [x]).getD L.length 0 = x := by
      rw [List.getD_eq_getElem?_getD, List.getElem?_append_right (Nat.le_refl _), Nat.sub_self]
      rfl
    by_cases h : x = p
    · rw [if_pos h, List.filter_cons_of_pos (by rw [e]; simpa using h)]
      rfl
    · rw [if_neg h, List.filter_cons_of_neg (by rw [e]; simpa using h)]
      rfl
theorem kids_sum (f : Nat → Int) (m : Nat) : ∀ (k : Nat) (L : List Nat), L.length = k → (∀ i, i < L.length → L.getD i 0 < m) → ((List.range m).map fun p => ((kids L p).map f).sum).sum = ((List.range L.length).map fun i => f (i + 1)).sum
  | 0, L, hl, _ => by
    have e : L = [] := List.length_eq_zero_iff.mp hl
    subst e
    have : ∀ l : List Nat, (l.map fun p => ((kids [] p).map f).sum).sum = 0 := by
      intro l
      induction l with
      | nil => rfl
      | cons a l ih => rw [List.map_cons, List.sum_cons, ih]; rfl
    rw [this]
    rfl
  | k + 1, L, hl, hm => by
    have hne : L ≠ [] := fun z => by rw [z] at hl; cases hl
    obtain ⟨L', x, rfl⟩ : ∃ L' x, L = L' ++ [x] := ⟨L.dropLast, L.getLast hne, (List.dropLast_concat_getLast hne).symm⟩
    have hl' : L'.length = k := by simpa using hl
    have ih := kids_sum f m k L' hl' fun i hi => by
      have := hm i (by rw [List.length_append]; exact Nat.lt_add_right _ hi)
      rw [List.getD_eq_getElem?_getD, List.getElem?_append_left hi, ← List.getD_eq_getElem?_getD] at this
      exact this
    have hx : x < m := by
      have := hm L'.length (by simp)
      rw [List.getD_eq_getElem?_getD, List.getElem?_append_right (Nat.le_refl _), Nat.sub_self] at this
      exact this
    have e1 : (fun p => ((kids (L' ++ [x]) p).map f).sum) = fun p => ((kids L' p).map f).sum + if x = p then f (L'.length + 1) else 0 := by
      funext p
      rw [kids_snoc, List.map_append, List.sum_append]
      congr 1
      split
      · simp
      · rfl
    rw [e1, sum_add, ih, sum_pick, if_pos hx, List.length_append, List.length_singleton, List.range_succ, List.map_append, List.map_singleton, sum_snocI]
/-! ### the told way: whose counts they are -/
theorem getD_q {cs cs' : List Nat} {q : Nat} (h : cs'[q]? = cs[q]?) : cs'.getD q 0 = cs.getD q 0 := by
  rw [List.getD_eq_getElem?_getD, List.getD_eq_getElem?_getD, h]
theorem kids_one {L : List Nat} {p i q : Nat} (h1 : q ∈ kids L p) (h2 : q ∈ kids L i) : p = i := by
  obtain ⟨a, _, ha, rfl⟩ := mem_kids.mp h1
  obtain ⟨b, _, hb, e⟩ := mem_kids.mp h2
  have : a = b := by omega
  subst this
  exact ha.symm.trans hb
def Set (c : Case) (cs : List Nat) (p : Nat) : Prop := ∃ r, dget (tab c p) (cs.getD p 0) = some r ∧ ∀ (j q : Nat), (kids c.L p)[j]? = some q → r.part[j]? = some (cs.getD q 0)
theorem set_upto {c : Case} (wf : WfL c.L) {m : Int × Nat} (h : bestL (takes (tab c 0)) = some m) : ∀ i, i ≤ c.L.length + 1 → ∀ p, p < i → Set c ((List.range i).foldl (cntStep c) ((List.replicate (c.L.length + 1) 0).set 0 m.2)) p
  | 0, _, p, hp => by omega
  | i + 1, hi, p, hp => by
    have kn := known_upto wf h i (by omega)
    have ih := set_upto wf h i (by omega)
    obtain ⟨_, r, hr1, hr2⟩ := known_step wf (show i ≤ c.L.length by omega) kn
    rw [List.range_succ, List.foldl_append]
    show Set c (cntStep c _ i) p
    rw [hr2]
    have hlen := kn.1
    generalize ((List.range i).foldl (cntStep c) ((List.replicate (c.L.length + 1) 0).set 0 m.2)) = cs at hr1 hlen ih
    obtain ⟨hpl, _⟩ := tab_part wf (show i ≤ c.L.length by omega) hr1
    have hout : ∀ q, q ∉ kids c.L i → (setKids cs (kids c.L i) r.part).getD q 0 = cs.getD q 0 := fun q hq => getD_q (setKids_out hq)
    by_cases e : p = i
    · subst e
      refine ⟨r, ?_, fun j q hq => ?_⟩
      · rw [hout p (fun z => by have := kids_gt wf z; omega)]
        exact hr1
      · have hj : j < r.part.length := by rw [hpl]; exact (List.getElem?_eq_some_iff.mp hq).1
        have hk := kids_gt wf (List.mem_of_getElem? hq)
        have := setKids_at (cs := cs) (kids_nd _ _) hq (List.getElem?_eq_getElem hj) (by omega)
        rw [List.getD_eq_getElem?_getD, this, List.getElem?_eq_getElem hj]
        rfl
    · obtain ⟨r', h1, h2⟩ := ih p (by omega)
      refine ⟨r', ?_, fun j q hq => ?_⟩
      · rw [hout p (fun z => by have := kids_gt wf z; omega)]
        exact h1
      · rw [hout q (fun z => e (kids_one (List.mem_of_getElem? hq) z))]
        exact h2 j q hq
theorem told_set {c : Case} (wf : WfL c.L) {cs : List Nat} (h : told c = some cs) : ∀ p, p ≤ c.L.length → Set c cs p := by
  unfold told at h
  obtain ⟨m, hm, rfl⟩ := Option.map_eq_some_iff.mp h
  exact fun p hp => set_upto wf hm (c.L.length + 1) (Nat.le_refl _) p (by omega)
/-! ### partings: what is summed -/
theorem parts_vals {ts : List (List (Nat × Int))} {part : List Nat} {s : Int} {n : Nat} (h : Parts ts part s n) : ∃ vs : List Int, vs.length = ts.length ∧ s = vs.sum ∧ n = part.sum ∧ ∀ (i : Nat) (tb : List (Nat × Int)) (k : Nat) (v : Int), ts[i]? = some tb → part[i]? = some k → vs[i]? = some v → (k, v) ∈ tb := by
  induction h with
  | nil => exact ⟨[], rfl, rfl, rfl, fun i tb k v h => by simp at h⟩
  | @snoc ts part s n tb k t h hm ih =>
    obtain ⟨vs, h1, h2, h3, h4⟩ := ih
    have hl := h.len
    refine ⟨vs ++ [t], by simp [h1], by rw [sum_snocI, h2], by rw [sum_snocN, h3], fun i tb' k' v' g1 g2 g3 => ?_⟩
    by_cases hi : i < ts.length
    · rw [List.getElem?_append_left hi] at g1
      rw [List.getElem?_append_left (by omega)] at g2 g3
      exact h4 i tb' k' v' g1 g2 g3
    · have hi2 : i = ts.length := by
        have := (List.getElem?_eq_some_iff.mp g1).1
        simp at this
        omega
      subst hi2
      rw [List.getElem?_append_right (Nat.le_refl _), Nat.sub_self] at g1
      rw [← hl, List.getElem?_append_right (Nat.le_refl _), Nat.sub_self] at g2
      rw [← h1, List.getElem?_append_right (Nat.le_refl _), Nat.sub_self] at g3
      have e1 := Option.some.inj g1
      have e2 := Option.some.inj g2
      have e3 := Option.some.inj g3
      subst e1
      subst e2
      subst e3
      exact hm
def tkAt (c : Case) (cs : List Nat) (p : Nat) : Int := match dget (tab c p) (cs.getD p 0) with
  | some r => r.tk
  | none => 0
theorem set_sums {c : Case} (wf : WfL c.L) {cs : List Nat} (hS : ∀ p, p ≤ c.L.length → Set c cs p) {p : Nat} (hp : p ≤ c.L.length) : ∃ r b n, dget (tab c p) (cs.getD p 0) = some r ∧ best ((kids c.L p).map fun k => takes (tab c k)) (cs.getD p 0) = some b ∧ takenOf c p (b.1 + wantN c.W p, b.2) (cs.getD p 0) = some r ∧
    b.1 = ((kids c.L p).map (tkAt c cs)).sum ∧ n = ((kids c.L p).map fun q => cs.getD q 0).sum ∧ n ≤ cs.getD p 0 := by
  obtain ⟨r, hr, hpart⟩ := hS p hp
  obtain ⟨_, hrow⟩ := tab_row wf hp hr
  obtain ⟨b, hb, ht⟩ := row_some hrow
  have hbp : r.part = b.2 := by have := takenOf_part ht; exact this
  obtain ⟨n, hn, hP⟩ := best_parts hb
  obtain ⟨vs, h1, h2, h3, h4⟩ := parts_vals hP
  have hl := hP.len
  rw [List.length_map] at h1 hl
  refine ⟨r, b, n, hr, hb, ht, ?_, ?_, hn⟩
  · rw [h2]
    congr 1
    apply List.ext_getElem?
    intro i
    by_cases hi : i < (kids c.L p).length
    · have hq : (kids c.L p)[i]? = some (kids c.L p)[i] := List.getElem?_eq_getElem hi
      have hv : vs[i]? = some vs[i] := List.getElem?_eq_getElem (by omega)
      generalize (kids c.L p)[i] = q at hq
      have hk := kids_gt wf (List.mem_of_getElem? hq)
      have g := hpart i q hq
      rw [hbp] at g
      have hm := h4 i (takes (tab c q)) (cs.getD q 0) vs[i] (by rw [List.getElem?_map, hq]; rfl) g hv
      obtain ⟨rq, hrq, hv2⟩ := mem_takes.mp hm
      have hd := dget_of_mem (tab_nd wf hk.2) hrq
      rw [hv, List.getElem?_map, hq]
      show some vs[i] = some (tkAt c cs q)
      unfold tkAt
      rw [hd, ← hv2]
    · rw [List.getElem?_eq_none (by omega), List.getElem?_eq_none (by rw [List.length_map]; omega)]
  · rw [h3]
    congr 1
    apply List.ext_getElem?
    intro i
    by_cases hi : i < (kids c.L p).length
    · have hq : (kids c.L p)[i]? = some (kids c.L p)[i] := List.getElem?_eq_getElem hi
      generalize (kids c.L p)[i] = q at hq
      have g := hpart i q hq
      rw [hbp] at g
      rw [g, List.getElem?_map, hq]
      rfl
    · rw [List.getElem?_eq_none (by omega), List.getElem?_eq_none (by rw [List.length_map]; omega)]
theorem le_sum {l : List Nat} {x : Nat} (h : x ∈ l) : x ≤ l.sum := by
  induction l with
  | nil => cases h
  | cons y l ih =>
    rw [List.sum_cons]
    rcases List.mem_cons.mp h with e | e
    · omega
    · have := ih e
      omega
/-- what the told way counts: no more behind a place than at it -/
theorem told_counts {c : Case} (wf : WfL c.L) {cs : List Nat} (h : told c = some cs) {p : Nat} (hp : p ≤ c.L.length) : ((kids c.L p).map fun q => cs.getD q 0).sum ≤ cs.getD p 0 ∧ ∀ q ∈ kids c.L p, cs.getD q 0 ≤ cs.getD p 0 := by
  obtain ⟨r, b, n, _, _, _, _, h5, h6⟩ := set_sums wf (told_set wf h) hp
  refine ⟨by omega, fun q hq => ?_⟩
  have := le_sum (l := (kids c.L p).map fun q => cs.getD q 0) (List.mem_map.mpr ⟨q, hq, rfl⟩)
  omega
theorem told_left {c : Case} (wf : WfL c.L) {cs : List Nat} (h : told c = some cs) : cs.getD 0 0 ≤ c.left := by
  obtain ⟨r, hr, _⟩ := told_set wf h 0 (Nat.zero_le _)
  exact (tab_row wf (Nat.zero_le _) hr).1
/-- at a place behind the base: what is taken is what is needed, and what is eaten on the mile to it -/
theorem taken_eaten {c : Case} (wf : WfL c.L) {p e : Nat} {b : Int × List Nat} {r : TRow} (hp : p ≤ c.L.length) (h0 : p ≠ 0) (hb : best ((kids c.L p).map fun k => takes (tab c k)) e = some b) (ht : takenOf c p (b.1 + wantN c.W p, b.2) e = some r) : r.tk = b.1 + wantN c.W p + (r.out + r.back) := by
  unfold takenOf at ht
  rw [if_neg h0] at ht
  split at ht
  · rename_i z
    obtain ⟨z1, z2⟩ := z
    subst z1
    have := zero_need wf hp z2 hb
    rw [← Option.some.inj ht]
    show (0 : Int) = b.1 + wantN c.W p + (0 + 0)
    omega
  · obtain ⟨o, _, rfl⟩ := Option.map_eq_some_iff.mp ht
    show b.1 + wantN c.W p + 2 * o - (e : Int) = b.1 + wantN c.W p + (o + (o - (e : Int)))
    omega
def eatAt (c : Case) (cs : List Nat) (p : Nat) : Int := match dget (tab c p) (cs.getD p 0) with
  | some r => r.out + r.back
  | none => 0
theorem told_eaten {c : Case} (wf : WfL c.L) {cs : List Nat} (h : told c = some cs) : least c = some (((List.range c.L.length).map fun i => eatAt c cs (i + 1)).sum + ((List.range (c.L.length + 1)).map fun p => wantN c.W p).sum) := by
  have hS := told_set wf h
  have h1 : ∀ p, p ≤ c.L.length → tkAt c cs p = ((kids c.L p).map (tkAt c cs)).sum + (wantN c.W p + if p = 0 then 0 else eatAt c cs p) := fun p hp => by
    obtain ⟨r, b, n, hr, hb, ht, e1, _, _⟩ := set_sums wf hS hp
    have hk : tkAt c cs p = r.tk := by unfold tkAt; rw [hr]
    have he : eatAt c cs p = r.out + r.back := by unfold eatAt; rw [hr]
    rw [hk, he, ← e1]
    by_cases h0 : p = 0
    · rw [if_pos h0]
      unfold takenOf at ht
      rw [if_pos h0] at ht
      rw [← Option.some.inj ht]
      show b.1 + wantN c.W p = b.1 + (wantN c.W p + 0)
      omega
    · rw [if_neg h0, taken_eaten wf hp h0 hb ht]
      omega
  have hsum : ((List.range (c.L.length + 1)).map (tkAt c cs)).sum = ((List.range c.L.length).map fun i => tkAt c cs (i + 1)).sum + (((List.range (c.L.length + 1)).map fun p => wantN c.W p).sum + ((List.range (c.L.length + 1)).map fun p => if p = 0 then 0 else eatAt c cs p).sum) := by
    rw [← kids_sum (tkAt c cs) (c.L.length + 1) c.L.length c.L rfl (fun i hi => by have := wf i hi; omega), ← sum_add, ← sum_add]
    congr 1
    refine List.map_congr_left fun p hp => ?_
    have := List.mem_range.mp hp
    exact h1 p (by omega)
  have hshift : ∀ (f : Nat → Int) (n : Nat), ((List.range (n + 1)).map f).sum = f 0 + ((List.range n).map fun i => f (i + 1)).sum := by
    intro f n
    rw [List.range_succ_eq_map, List.map_cons, List.sum_cons, List.map_map]
    rfl
  rw [hshift (tkAt c cs), hshift (fun p => if p = 0 then 0 else eatAt c cs p)] at hsum
  have e0 : ((List.range c.L.length).map fun i => (fun p => if p = 0 then (0 : Int) else eatAt c cs p) (i + 1)) = (List.range c.L.length).map fun i => eatAt c cs (i + 1) := by
    refine List.map_congr_left fun i _ => ?_
    show (if i + 1 = 0 then (0 : Int) else _) = _
    rw [if_neg (Nat.succ_ne_zero i)]
  rw [e0] at hsum
  rw [if_pos rfl] at hsum
  have ht0 : tkAt c cs 0 = ((List.range c.L.length).map fun i => eatAt c cs (i + 1)).sum + ((List.range (c.L.length + 1)).map fun p => wantN c.W p).sum := by omega
  rw [← ht0]
  unfold told at h
  obtain ⟨m, hm, hcs⟩ := Option.map_eq_some_iff.mp h
  have hne : takes (tab c 0) ≠ [] := fun z => by rw [z] at hm; cases hm
  obtain ⟨n, e, g1, _⟩ := bestL_some hne
  rw [hm] at e
  have e := Option.some.inj e
  subst e
  have hlt : least c = some m.1 := by unfold least; rw [hm]; rfl
  rw [hlt]
  congr 1
  obtain ⟨r, hr, hv⟩ := mem_takes.mp g1
  have hd := dget_of_mem (tab_nd wf (Nat.zero_le _)) hr
  have hc0 : cs.getD 0 0 = m.2 := by
    have : ∀ i, i ≤ c.L.length + 1 → ((List.range i).foldl (cntStep c) ((List.replicate (c.L.length + 1) 0).set 0 m.2)).getD 0 0 = m.2 := by
      intro i
      induction i with
      | zero => intro _; simp
      | succ i ih =>
        intro hi
        have kn := known_upto wf hm i (by omega)
        obtain ⟨_, r, hr1, hr2⟩ := known_step wf (show i ≤ c.L.length by omega) kn
        rw [List.range_succ, List.foldl_append]
        show (cntStep c _ i).getD 0 0 = m.2
        rw [hr2, getD_q (setKids_out (fun z => by have := kids_gt wf z; omega))]
        exact ih (by omega)
    rw [← hcs]
    exact this (c.L.length + 1) (Nat.le_refl _)
  unfold tkAt
  rw [hc0, hd]
  exact hv.symm
end Oat
namespace Oat
def lone (n p u : Nat) : List (Option Nat) := (List.range n).map fun k => if k = p then some u else none
theorem lone_len (n p u : Nat) : (lone n p u).length = n := by simp [lone]
theorem lone_ok {n p u i x : Nat} (h : (lone n p u)[i]? = some (some x)) : x = u := by
  unfold lone at h
  rw [List.getElem?_map] at h
  obtain ⟨k, _, hk⟩ := Option.map_eq_some_iff.mp h
  split at hk
  · exact (Option.some.inj hk).symm
  · cases hk
end Oat
namespace Oa
open PySem PySem.Spec PyProof.Rows L2 Oat
section
variable {P : Program} {w : World} {K : PySem.W.Frag} {mg : Str → Option Value} {base : Heap}
theorem CaseAt.lone {H : Hp} {a b d d' : Addr} {c : Case} {carts p u : Nat} (h : CaseAt K H a b d c carts) (hu : u ≤ 999) (hd : SqT K H d' (wantsV (lone (c.L.length + 1) p u))) : CaseAt K H a b d' { c with W := lone (c.L.length + 1) p u } carts :=
  ⟨h.l, h.k, hd, h.n, h.wf, h.c1, h.c6, h.r2, h.r20, lone_len _ _ _, fun i x hx => by rw [lone_ok hx]; exact hu, h.lf⟩
/-! ### look_place, look_most: of those that are -/
def sp_look_place (K : PySem.W.Frag) : Sp := fun vs H Q _ => ∃ a L p, vs = [.ref a, .int ((p : Nat) : Int)] ∧ SqT K H a (landV L) ∧ p ≤ L.length ∧ Q .non H
theorem c_look_place (T : Txt K mg) : Cal P w K mg base CX0 2 "look_place" ["land", "place"] (sp_look_place K) := by
  refine cal0 T.d_look_place sc_look_place (fun _ _ _ _ _ _ us hl => match us, hl with | [_, _], _ => rfl) (fun vs H Q E h => ?_) (fun f cdv A outer s H vs Q E hr h => ?_)
  · obtain ⟨a, L, p, rfl, _⟩ := h
    rfl
  · obtain ⟨a, L, p, rfl, hS, hp, q⟩ := h
    refine ⟨_, (pss_one (ps_if (pt_not (pt_val (pcall (c_is_whole T) (hr.mono (by omega)) (pa_cons (pv 1) (pa_cons pe_int (pa_cons (pe_op op_sub (pe_callB (lenS K) rfl T.b_len PySem.boot_len (pa_cons (pv 0) pa_nil)) pe_int) pa_nil)))))) (pss_one ps_never) pss_nil)), ?_⟩
    have el : (landV L).length = L.length + 1 := landV_len L
    refine ⟨_, rfl, _, rfl, a, _, rfl, .inr hS, _, _, rfl, rfl, _, _, _, rfl, .inl ⟨_, rfl⟩, true, congrArg V.bl (decide_eq_true ⟨by omega, by omega⟩), iteF q⟩
def sp_look_most : Sp := fun vs H Q _ => ∃ m, vs = [.int ((m : Nat) : Int)] ∧ m ≤ 999 ∧ Q .non H
/-! ### wants_one -/
def sp_wants_one (K : PySem.W.Frag) : Sp := fun vs H Q _ => ∃ a L p u, vs = [.ref a, .int ((p : Nat) : Int), .int ((u : Nat) : Int)] ∧ SqT K H a (landV L) ∧ L.length < 30 ∧ ∀ d H', Same H H' → SqT K H' d (wantsV (lone (L.length + 1) p u)) → Q (.ref d) H'
/-! ### price_of_leaving -/
def leavingL (c : Case) (carts : Nat) : List V := (List.range (carts + 1)).map fun e => oiV (least { c with left := e })
def sp_price_of_leaving (K : PySem.W.Frag) : Sp := fun vs H Q _ => ∃ a b d c carts, vs = [.ref a, .ref b, .ref d] ∧ CaseAt K H a b d c carts ∧ c.room ≤ 20 ∧ ∀ l H', Same H H' → H l = none → H' l = some (.lst (leavingL c carts)) → Q (.ref l) H'
theorem c_price_of_leaving (T : Txt K mg) : Cal P w K mg base CX0 5 "price_of_leaving" ["land", "works", "wants"] (sp_price_of_leaving K) := by
  refine cal0 T.d_price_of_leaving sc_price_of_leaving (fun _ _ _ _ _ _ us hl => match us, hl with | [_, _, _], _ => rfl) (fun vs H Q E h => ?_) (fun f cdv A outer s H vs Q E hr h => ?_)
  · obtain ⟨a, b, d, c, carts, rfl, _⟩ := h
    rfl
  · obtain ⟨a, b, d, c, carts, rfl, hC, h20, q⟩ := h
    refine ⟨_, (pss_cons (ps_expr (pcall (c_look_case T) (hr.mono (by omega)) (pa_cons (pv 0) (pa_cons (pv 1) (pa_cons (pv 2) (pa_cons pe_int pa_nil))))))
      (pss_one (ps_ret (pe_lc (own := [("left", 3)]) (g := gName 3) rfl sc_price_of_leaving.nd (pi_range1 rfl T.b_range (pa_cons (pe_op op_add (pe_ix (ixT K) (pv 1) pe_int (fun _ _ => rfl)) pe_int) pa_nil)) (blkOk_by (own := [("left", 3)]) (N := ["land", "works", "wants", "left"]) (sc := (defScope s_price_of_leaving)) (by decide +kernel)) (fun _ _ _ _ _ => pg_name (i := 3) sc_price_of_leaving.nd rfl (Or.inl rfl)) (fun _ _ _ _ _ => pts_nil) (fun _ _ _ _ _ => (pcall (c_least_of T) (hr.mono (by omega)) (pa_cons (pv 0) (pa_cons (pv 1) (pa_cons (pv 2) (pa_cons (pv 3) pa_nil)))))))))), ?_⟩
    have c6 := hC.c6
    have hCe : ∀ {H' : Hp} (e : Nat), CaseAt K H' a b d c carts → e ≤ carts → CaseAt K H' a b d { c with left := e } carts := fun e h he => ⟨h.l, h.k, h.w, h.n, h.wf, h.c1, h.c6, h.r2, h.r20, h.wl, h.wo, he⟩
    refine ⟨_, rfl, _, rfl, _, rfl, a, b, d, { c with left := 0 }, carts, rfl, hCe 0 hC (Nat.zero_le _), h20, fun H1 s1 => ?_⟩
    have hC1 := hC.same s1
    refine ⟨_, rfl, b, _, 0, _, rfl, rfl, hC1.k, rfl, _, _, rfl, rfl, _, rfl, by omega, by omega, fun D hD => ?_⟩
    rw [show (((carts : Nat) : Int) + 1).toNat = carts + 1 by omega]
    refine lc_rel walk_range hD (by omega) (fun _ _ => trivial) (fun _ => true) (fun i v _ => v = oiV (least { c with left := i })) (fun _ _ _ _ _ _ _ h => h) (fun i x H2 H3 l hi s2 hy y => ?_) (fun ys H2 s2 hy hp => ?_)
    · obtain ⟨rfl, rfl⟩ := y
      dsimp only
      rw [Int.zero_add]
      refine ⟨Same.refl _, rfl, fun Q' q' => q' H3 (Same.refl _), fun _ H4 s4 Q' q' => ?_⟩
      exact ⟨_, rfl, _, rfl, _, rfl, _, rfl, a, b, d, { c with left := i }, carts, rfl, hCe i (hC1.same (s2.trans s4)) (by omega), fun H5 s5 => q' _ _ s5 rfl⟩
    · rw [show (List.range (carts + 1)).filter (fun _ => true) = List.range (carts + 1) by simp] at hp
      have e4 := paired_vals (g := fun i => oiV (least { c with left := i })) (fun _ _ h => h) hp
      refine q D _ (s1.trans s2) (s1.free hD) ?_
      rw [hy, e4]
      rfl
end
end Oa
namespace Oat
/-- the first (u, p) with u < m, p < n, by u and then by p -/
def First (n m : Nat) (diff : Nat → Nat → Bool) : Option (Nat × Nat) → Prop
  | none => ∀ u, u < m → ∀ p, p < n → diff u p = false
  | some (u, p) => u < m ∧ p < n ∧ diff u p = true ∧ (∀ u', u' < u → ∀ p', p' < n → diff u' p' = false) ∧ ∀ p', p' < p → diff u p' = false
theorem First.uniq {n m : Nat} {diff : Nat → Nat → Bool} : ∀ {a b : Option (Nat × Nat)}, First n m diff a → First n m diff b → a = b
  | none, none, _, _ => rfl
  | none, some (u, p), h, ⟨h1, h2, h3, _, _⟩ => by rw [h u h1 p h2] at h3; cases h3
  | some (u, p), none, ⟨h1, h2, h3, _, _⟩, h => by rw [h u h1 p h2] at h3; cases h3
  | some (u, p), some (u', p'), ⟨h1, h2, h3, h4, h5⟩, ⟨g1, g2, g3, g4, g5⟩ => by
    have e : u = u' := by
      rcases Nat.lt_trichotomy u u' with z | z | z
      · rw [g4 u z p h2] at h3; cases h3
      · exact z
      · rw [h4 u' z p' g2] at g3; cases g3
    subst e
    have e : p = p' := by
      rcases Nat.lt_trichotomy p p' with z | z | z
      · rw [g5 p z] at h3; cases h3
      · exact z
      · rw [h5 p' z] at g3; cases g3
    rw [e]
end Oat
namespace Oa
open PySem PySem.Spec PyProof.Rows L2 Oat
section
variable {P : Program} {w : World} {K : PySem.W.Frag} {mg : Str → Option Value} {base : Heap}
theorem scal_oi2 (a b : Option Int) : scal (oiV a) (oiV b) = true := by cases a <;> cases b <;> rfl
theorem dec_oi (a b : Option Int) : decide (oiV a = oiV b) = decide (a = b) := by
  refine decide_eq_decide.mpr ⟨fun h => ?_, fun h => by rw [h]⟩
  cases a <;> cases b
  · rfl
  · cases h
  · cases h
  · injection h with h
    rw [h]
def oiD : Option Int → PyData
  | none => .none
  | some i => .int i
theorem dp_oi {H : Hp} (o : Option Int) : Dp K H (oiV o) (oiD o) := by
  cases o with
  | none => exact .non
  | some i => exact .int i
/-! ### price_of_room -/
def sp_price_of_room (K : PySem.W.Frag) : Sp := fun vs H Q E => ∃ a b d c carts, vs = [.ref a, .ref b, .ref d, .int ((c.left : Nat) : Int)] ∧ CaseAt K H a b d c carts ∧ c.room ≤ 20 ∧
  (least c = none → ∀ H', Same H H' → E (.ref (He.ga K "NoneSuch")) none H') ∧ (∀ x y, least c = some x → least { c with room := c.room + 1 } = some y → ∀ H', Same H H' → Q (.int (x - y)) H')
theorem c_price_of_room (T : Txt K mg) (R : Errs K mg) : CalK P w K mg base (L2.CX P w) 5 "price_of_room" ["land", "works", "wants", "left"] 3 "left" (.int 0) (sp_price_of_room K) := by
  refine calK T.d_price_of_room sc_price_of_room rfl (fun _ _ _ _ _ _ us ws h1 h2 => match us, ws, h1, h2 with | [_, _, _], [_], _, _ => rfl) (fun _ _ _ _ _ _ us ws h1 h2 => match us, ws, h1, h2 with | [_, _, _], [_], _, _ => ⟨_, _, _, _, _, _, rfl, rfl, rfl⟩) (fun vs H Q E h => ?_) (fun f cdv A outer s H vs Q E hr h => ?_)
  · obtain ⟨a, b, d, c, carts, rfl, _⟩ := h
    rfl
  · obtain ⟨a, b, d, c, carts, rfl, hC, h20, qn, q⟩ := h
    refine ⟨_, (pss_cons (ps_expr (pcall (c_look_case T) (hr.mono (by omega)) (pa_cons (pv 0) (pa_cons (pv 1) (pa_cons (pv 2) (pa_cons (pv 3) pa_nil))))))
      (pss_cons (ps_set (i := 4) sc_price_of_room.nd rfl (Or.inl rfl) (pcall (c_least_of T) (hr.mono (by omega)) (pa_cons (pv 0) (pa_cons (pv 1) (pa_cons (pv 2) (pa_cons (pv 3) pa_nil))))))
      (pss_cons (ps_if (pt_cmpR op_isN (pv 4) pe_non (nomark _)) (pss_one (ps_raise rfl (takes_of rfl rfl rfl rfl) (pmkE R (by decide +kernel) (by decide +kernel) rfl))) pss_nil)
      (pss_one (ps_ret (pe_op op_sub (pv 4) (pcall (c_least_of T) (hr.mono (by omega)) (pa_cons (pv 0) (pa_cons (pe_tup (pa_cons (pe_ix (ixT K) (pv 1) pe_int (fun _ _ => rfl)) (pa_cons (pe_op op_add (pe_ix (ixT K) (pv 1) pe_int (fun _ _ => rfl)) pe_int) pa_nil))) (pa_cons (pv 2) (pa_cons (pv 3) pa_nil))))))))))), ?_⟩
    refine ⟨_, rfl, _, rfl, _, rfl, _, rfl, a, b, d, c, carts, rfl, hC, h20, fun H1 s1 => ?_⟩
    refine ⟨_, rfl, _, rfl, _, rfl, _, rfl, a, b, d, c, carts, rfl, hC.same s1, fun H2 s2 => ?_⟩
    have s02 := s1.trans s2
    have r2 := hC.r2
    cases hl : least c with
    | none => exact ⟨_, rfl, rfl, true, rfl, iteT (qn hl _ s02)⟩
    | some x =>
      refine ⟨_, rfl, rfl, false, rfl, iteF ?_⟩
      have hC2 := hC.same s02
      refine ⟨_, rfl, _, rfl, _, rfl, b, _, 0, _, rfl, rfl, hC2.k, rfl, _, rfl, b, _, 1, _, rfl, rfl, hC2.k, rfl, _, _, rfl, rfl, by show 2 ≤ sizeLine; decide, fun b2 nb2 => ?_⟩
      have s3 := same_new (o := .tup [.int (carts : Int), .int ((c.room : Int) + 1)]) nb2
      have hk3 : SqT K (upd H2 b2 (.tup [.int (carts : Int), .int ((c.room : Int) + 1)])) b2 (worksV carts (c.room + 1)) := sqt (by rw [upd_same]; rfl)
      have hC3 := hC2.same s3
      refine ⟨_, rfl, _, rfl, a, b2, d, { c with room := c.room + 1 }, carts, rfl, ⟨hC3.l, hk3, hC3.w, hC3.n, hC3.wf, hC3.c1, hC3.c6, by show 2 ≤ c.room + 1; omega, by show c.room + 1 ≤ 21; omega, hC3.wl, hC3.wo, hC3.lf⟩, fun H4 s4 => ?_⟩
      cases hy : least { c with room := c.room + 1 } with
      | none =>
        have r2 := hC.r2
        exact absurd hy (least_room3 (c := { c with room := c.room + 1 }) hC.wf (by show 3 ≤ c.room + 1; omega))
      | some y => exact ⟨_, _, rfl, rfl, q x y hl hy _ (s02.trans (s3.trans s4))⟩
/-! ### works_parting -/
def optPD : Option (Nat × Nat) → PyData
  | none => .none
  | some x => .tuple [.int (x.1 : Int), .int (x.2 : Int)]
def diffW (c : Case) (room2 u p : Nat) : Bool := !decide (least { c with W := lone (c.L.length + 1) p u } = least { c with room := room2, W := lone (c.L.length + 1) p u })
def sp_works_parting (K : PySem.W.Frag) : Sp := fun vs H Q _ => ∃ a b b2 d c carts room2 carts2 most, vs = [.ref a, .ref b, .ref b2, .int ((c.left : Nat) : Int), .int ((most : Nat) : Int)] ∧ CaseAt K H a b d c carts ∧ CaseAt K H a b2 d { c with room := room2 } carts2 ∧ c.room ≤ 20 ∧ room2 ≤ 20 ∧ most ≤ 999 ∧
  ∀ o v H', Same H H' → First (c.L.length + 1) (most + 1) (diffW c room2) o → Dp K H' v (optPD o) → Q v H'
/-! ### places_parting -/
def diffP (c : Case) (p1 p2 u : Nat) (_ : Nat) : Bool := !decide (least { c with W := lone (c.L.length + 1) p1 u } = least { c with W := lone (c.L.length + 1) p2 u })
def sp_places_parting (K : PySem.W.Frag) : Sp := fun vs H Q _ => ∃ a b d c carts p1 p2 most, vs = [.ref a, .ref b, .int ((p1 : Nat) : Int), .int ((p2 : Nat) : Int), .int ((c.left : Nat) : Int), .int ((most : Nat) : Int)] ∧ CaseAt K H a b d c carts ∧ c.room ≤ 20 ∧ most ≤ 999 ∧ p1 ≤ c.L.length ∧ p2 ≤ c.L.length ∧
  ∀ o H', Same H H' → First 1 (most + 1) (diffP c p1 p2) o → Q (oiV (o.map fun x => (x.1 : Int))) H'
theorem pair_list {α : Type} {Rr : V → α → Prop} {x y : α} {ys : List V} (h : Paired Rr ys [x, y]) : ∃ v u, ys = [v, u] ∧ Rr v x ∧ Rr u y := by
  cases h with
  | cons a b =>
    cases b with
    | cons a2 b2 =>
      cases b2
      exact ⟨_, _, rfl, a, a2⟩
end
end Oa
namespace Oat
def wantU (W : List (Option Nat)) (p : Nat) : Nat := (W.getD p none).getD 0
theorem wantN_U (W : List (Option Nat)) (p : Nat) : wantN W p = ((wantU W p : Nat) : Int) := by
  unfold wantN wantU
  cases W.getD p none <;> rfl
/-- one unit more at p -/
def moreAt (c : Case) (p : Nat) : Case := { c with W := c.W.set p (some (wantU c.W p + 1)) }
def dearAt (c : Case) (p : Nat) : Option Int := match least c, least (moreAt c p) with
  | some b, some t => some (t - b)
  | _, _ => none
def dearL (c : Case) : List (Option Int) := (List.range (c.L.length + 1)).map (dearAt c)
end Oat
namespace Oa
open PySem PySem.Spec PyProof.Rows L2 Oat
section
variable {P : Program} {w : World} {K : PySem.W.Frag} {mg : Str → Option Value} {base : Heap}
/-! ### lists of numbers and None, as data -/
def oisD (xs : List (Option Int)) : PyData := .list (xs.map oiD)
theorem dpAll_ois {H : Hp} : ∀ xs : List (Option Int), DpAll K H (xs.map oiV) (xs.map oiD)
  | [] => .nil
  | x :: xs => .cons (dp_oi x) (dpAll_ois xs)
theorem dp_ois {H : Hp} {l : Addr} {xs : List (Option Int)} (h : SqL K H l (xs.map oiV)) : Dp K H (.ref l) (oisD xs) := .lst h (dpAll_ois xs)
theorem canLay_ois : ∀ xs : List (Option Int), PyData.canLayAll0 (xs.map oiD) = true
  | [] => by simp [PyData.canLayAll0]
  | none :: xs => by simp only [List.map_cons, PyData.canLayAll0, oiD, PyData.canLay0, canLay_ois xs, Bool.and_self]
  | some _ :: xs => by simp only [List.map_cons, PyData.canLayAll0, oiD, PyData.canLay0, canLay_ois xs, Bool.and_self]
theorem noDict_ois : ∀ xs : List (Option Int), noDictAll (xs.map oiD) = true
  | [] => by simp [noDictAll]
  | none :: xs => by simp only [List.map_cons, noDictAll, oiD, noDict, noDict_ois xs, Bool.and_self]
  | some _ :: xs => by simp only [List.map_cons, noDictAll, oiD, noDict, noDict_ois xs, Bool.and_self]
theorem depth_ois : ∀ xs : List (Option Int), PyData.depthAll (xs.map oiD) ≤ 1
  | [] => by simp [PyData.depthAll]
  | none :: xs => by have := depth_ois xs; simp only [List.map_cons, PyData.depthAll, oiD, PyData.depth]; omega
  | some _ :: xs => by have := depth_ois xs; simp only [List.map_cons, PyData.depthAll, oiD, PyData.depth]; omega
theorem shaped_ois (xs : List (Option Int)) : SeqAt.shaped (oisD xs) = true := by
  have h1 := canLay_ois xs
  have h2 := depth_ois xs
  unfold SeqAt.shaped oisD
  refine Bool.and_eq_true_iff.mpr ⟨by simp only [PyData.canLay0, h1], decide_eq_true ?_⟩
  simp only [PyData.depth]
  omega
theorem eqv_ois (xs : List (Option Int)) : PyData.eqv (oisD xs) (oisD xs) = true := by
  refine eqv_refl _ ?_
  have h1 := noDict_ois xs
  simp only [noDict, oisD, h1]
/-! ### wants with one place changed -/
theorem wantsV_set (W : List (Option Nat)) (p u : Nat) : (wantsV W).set p (.int ((u : Nat) : Int)) = wantsV (W.set p (some u)) := by
  unfold wantsV
  rw [List.map_set]
  rfl
theorem row_set {σ : L2.St} {H : Hp} {Q : VK} {d : Addr} {W : List (Option Nat)} {p u : Nat} {tw tp tu tp1 : TE} (hW : SqT K H d (wantsV W)) (hp : p < W.length) (hl : W.length ≤ 1000)
    (htw : ∀ (H' : Hp) (Q' : VK), Q' (.ref d) H' → tw σ H' Q') (htp : ∀ (H' : Hp) (Q' : VK), Q' (.int ((p : Nat) : Int)) H' → tp σ H' Q') (htu : ∀ (H' : Hp) (Q' : VK), Q' (.int ((u : Nat) : Int)) H' → tu σ H' Q')
    (htp1 : ∀ (H' : Hp) (Q' : VK), Q' (.int ((p + 1 : Nat) : Int)) H' → tp1 σ H' Q')
    (q : ∀ d' H', Same H H' → SqT K H' d' (wantsV (W.set p (some u))) → Q (.ref d') H') :
    tOp (rCatA K) (tOp (rCatA K) (tSl (rSlA K) tw tNoPart (tPart tp)) (tTup (tCons tu tNil))) (tSl (rSlA K) tw (tPart tp1) tNoPart) σ H Q := by
  have ew : (wantsV W).length = W.length := wantsV_len W
  have hz : ∀ n, n ≤ 1000 → n ≤ sizeLine := fun n hn => Nat.le_of_lt (small1000 hn)
  refine htw _ _ (htp _ _ ⟨_, rfl, slA_any hW fun p1 H1 s1 h1 => ?_⟩)
  rw [cutV_pre p (by omega)] at h1
  refine htu _ _ ⟨hz 1 (by decide), fun p2 n2 => ?_⟩
  have s2 := same_new (o := .tup [.int ((u : Nat) : Int)]) n2
  refine catA_any (same_t s2 h1) (sqt upd_same) (hz _ (by rw [List.length_take]; show _ + 1 ≤ 1000; omega)) fun p3 H3 s3 h3 => ?_
  have s03 := s1.trans (s2.trans s3)
  refine htw _ _ (htp1 _ _ ⟨_, rfl, ?_⟩)
  dsimp only [tNoPart]
  refine slA_any (same_t s03 hW) fun p4 H4 s4 h4 => ?_
  rw [cutV_post (p + 1) (by omega)] at h4
  refine catA_any (same_t s4 h3) h4 (hz _ (by rw [List.length_append, List.length_take, List.length_drop]; show _ + 1 + _ ≤ 1000; omega)) fun p5 H5 s5 h5 => ?_
  rw [take_set_drop (by omega), wantsV_set] at h5
  exact q p5 H5 (s03.trans (s4.trans s5)) h5
theorem CaseAt.more {H : Hp} {a b d d' : Addr} {c : Case} {carts p : Nat} (h : CaseAt K H a b d c carts) (hu : wantU c.W p ≤ 998) (hd : SqT K H d' (wantsV (c.W.set p (some (wantU c.W p + 1))))) : CaseAt K H a b d' (moreAt c p) carts :=
  ⟨h.l, h.k, hd, h.n, h.wf, h.c1, h.c6, h.r2, h.r20, by show (c.W.set p _).length = _; rw [List.length_set]; exact h.wl, fun i x hx => by
    have hx : (c.W.set p (some (wantU c.W p + 1)))[i]? = some (some x) := hx
    rw [List.getElem?_set] at hx
    split at hx
    · split at hx
      · have := Option.some.inj (Option.some.inj hx)
        omega
      · cases hx
    · exact h.wo i x hx, h.lf⟩
theorem wantU_le {W : List (Option Nat)} {m : Nat} (h : ∀ u, some u ∈ W → u ≤ m) (p : Nat) : wantU W p ≤ m := by
  unfold wantU
  rw [List.getD_eq_getElem?_getD]
  cases e : W[p]? with
  | none => exact Nat.zero_le _
  | some o =>
    cases o with
    | none => exact Nat.zero_le _
    | some u => exact h u (List.mem_of_getElem? e)
/-! ### dearer -/
def sp_dearer (K : PySem.W.Frag) : Sp := fun vs H Q _ => ∃ a b d c carts, vs = [.ref a, .ref b, .ref d, .int ((c.left : Nat) : Int)] ∧ CaseAt K H a b d c carts ∧ c.room ≤ 20 ∧ (∀ u, some u ∈ c.W → u ≤ 998) ∧ ∀ l H', Same H H' → H' l = some (.lst ((dearL c).map oiV)) → Q (.ref l) H'
theorem c_dearer (T : Txt K mg) : CalK P w K mg base CX0 5 "dearer" ["land", "works", "wants", "left"] 3 "left" (.int 0) (sp_dearer K) := by
  refine calK T.d_dearer sc_dearer rfl (fun _ _ _ _ _ _ us ws h1 h2 => match us, ws, h1, h2 with | [_, _, _], [_], _, _ => rfl) (fun _ _ _ _ _ _ us ws h1 h2 => match us, ws, h1, h2 with | [_, _, _], [_], _, _ => ⟨_, _, _, _, _, _, rfl, rfl, rfl⟩) (fun vs H Q E h => ?_) (fun f cdv A outer s H vs Q E hr h => ?_)
  · obtain ⟨a, b, d, c, carts, rfl, _⟩ := h
    rfl
  · obtain ⟨a, b, d, c, carts, rfl, hC, h20, hw, q⟩ := h
    refine ⟨_, (pss_cons (ps_expr (pcall (c_look_case T) (hr.mono (by omega)) (pa_cons (pv 0) (pa_cons (pv 1) (pa_cons (pv 2) (pa_cons (pv 3) pa_nil))))))
      (pss_cons (ps_set (i := 4) sc_dearer.nd rfl (Or.inl rfl) (pcall (c_least_of T) (hr.mono (by omega)) (pa_cons (pv 0) (pa_cons (pv 1) (pa_cons (pv 2) (pa_cons (pv 3) pa_nil))))))
      (pss_cons (ps_set (i := 5) sc_dearer.nd rfl (Or.inl rfl) (pe_lst pa_nil))
      (pss_cons (ps_for (passes_of rfl) rfl (pi_range1 rfl T.b_range (pa_cons (pe_callB (lenS K) rfl T.b_len PySem.boot_len (pa_cons (pv 0) pa_nil)) pa_nil)) (pg_name (i := 6) sc_dearer.nd rfl (Or.inl rfl)) (pss_cons (ps_set (i := 7) sc_dearer.nd rfl (Or.inl rfl) (pe_op op_add (peOrT K (pe_ix (ixT K) (pv 2) (pv 6) (fun _ _ => rfl)) (pe_one pe_int)) pe_int))
      (pss_cons (ps_set (i := 8) sc_dearer.nd rfl (Or.inl rfl) (pe_op (catA K) (pe_op (catA K) (pe_slice (slA K) (pv 2) po_none (po_some (pv 6))) (pe_tup (pa_cons (pv 7) pa_nil))) (pe_slice (slA K) (pv 2) (po_some (pe_op op_add (pv 6) pe_int)) po_none)))
      (pss_cons (ps_set (i := 9) sc_dearer.nd rfl (Or.inl rfl) (pe_ifExp (PW.pt (pw_and (pt_cmpR op_le (pv 7) (pe_glob (v := .int 999) rfl T.i_MOST_WANT.choose_spec ⟨_, rfl⟩) (nomark _)) (pw_and1 (pt_cmpR op_notN (pv 4) pe_non (nomark _))))) (pcall (c_least_of T) (hr.mono (by omega)) (pa_cons (pv 0) (pa_cons (pv 1) (pa_cons (pv 8) (pa_cons (pv 3) pa_nil))))) pe_non))
      (pss_one (ps_expr (pe_bm PySem.F.plainAttrs_list PySem.F.slot_list_append PySem.F.type_list_append mt_append (pv 5) (pa_cons (pe_ifExp (pt_cmpR op_isN (pv 9) pe_non (nomark _)) pe_non (pe_op op_sub (pv 9) (pv 4))) pa_nil))))))))
      (pss_one (ps_ret (pv 5))))))), ?_⟩
    have hn := hC.n
    have hwl := hC.wl
    have el : (landV c.L).length = c.L.length + 1 := landV_len c.L
    refine ⟨_, rfl, _, rfl, _, rfl, _, rfl, a, b, d, c, carts, rfl, hC, h20, fun H1 s1 => ?_⟩
    refine ⟨_, rfl, _, rfl, _, rfl, _, rfl, a, b, d, c, carts, rfl, hC.same s1, fun H2 s2 => ?_⟩
    have s02 := s1.trans s2
    refine ⟨Nat.zero_le _, fun fl nfl => ?_⟩
    have nflH : H fl = none := s02.free nfl
    refine ⟨_, rfl, a, _, rfl, .inr (same_t (s02.trans (same_new nfl)) hC.l), _, rfl, by omega, by omega, ?_⟩
    rw [el, show (((c.L.length + 1 : Nat) : Int)).toNat = c.L.length + 1 by omega]
    refine for_it walk_range (fun i σ H3 => ∃ y6 y7 y8 y9, σ = [some (.ref a), some (.ref b), some (.ref d), some (.int ((c.left : Nat) : Int)), some (oiV (least c)), some (.ref fl), y6, y7, y8, y9] ∧ Same H H3 ∧ H3 fl = some (.lst (((List.range i).map (dearAt c)).map oiV)))
      ⟨none, none, none, none, rfl, s02.trans (same_new nfl), upd_same⟩ (fun _ _ _ _ _ => trivial) (fun i x σ H3 H4 hi p y => ?_) (fun σ H3 p => ?_)
    · obtain ⟨y6, y7, y8, y9, rfl, s3, hfl⟩ := p
      obtain ⟨rfl, rfl⟩ := y
      dsimp only
      rw [Int.zero_add]
      refine ⟨_, rfl, _, rfl, d, _, _, _, rfl, rfl, same_t s3 hC.w, atI_nat (wantsV_get (by omega)), orz (fun Q' q' => q') ⟨_, _, rfl, rfl, ?_⟩⟩
      have eu : wantN c.W i + 1 = ((wantU c.W i + 1 : Nat) : Int) := by rw [wantN_U]; omega
      have hu := wantU_le hw i
      dsimp only [gName]
      rw [eu]
      refine row_set (u := wantU c.W i + 1) (p := i) (same_t s3 hC.w) (by omega) (by omega) (fun _ _ q' => ⟨_, rfl, q'⟩) (fun _ _ q' => ⟨_, rfl, q'⟩) (fun _ _ q' => ⟨_, rfl, q'⟩) (fun _ _ q' => ⟨_, rfl, _, _, rfl, rfl, q'⟩) fun d' H5 s5 hd' => ?_
      have s05 := s3.trans s5
      have hM := (hC.same s05).more (p := i) hu hd'
      refine ⟨_, rfl, _, _, rfl, rfl, true, congrArg V.bl (decide_eq_true (by omega)), iteT ?_⟩
      have fin : ∀ (D : Ends) (H6 : Hp) (v : V) (y9 : Option V), Same H4 H6 → v = oiV (dearAt c i) → (∀ σ H3, (∃ y6 y7 y8 y9, σ = [some (.ref a), some (.ref b), some (.ref d), some (.int ((c.left : Nat) : Int)), some (oiV (least c)), some (.ref fl), y6, y7, y8, y9] ∧ Same H H3 ∧ H3 fl = some (.lst (((List.range (i + 1)).map (dearAt c)).map oiV))) → D.nx σ H3) →
          rAppend (.ref fl) [v] H6 fun _ H7 => D.nx [some (.ref a), some (.ref b), some (.ref d), some (.int ((c.left : Nat) : Int)), some (oiV (least c)), some (.ref fl), some (.int ((i : Nat) : Int)), some (.int ((wantU c.W i + 1 : Nat) : Int)), some (.ref d'), y9] H7 := by
        intro D H6 v y9 s6 hv hD
        refine ⟨fl, _, _, rfl, rfl, s6 _ _ hfl, ?_, hD _ _ ⟨_, _, _, _, rfl, same_mut (s3.trans s6) nflH, ?_⟩⟩
        · rw [List.length_map, List.length_map, List.length_range]
          exact Nat.lt_of_le_of_lt (show i ≤ 1000 by omega) (small1000 (Nat.le_refl _))
        · rw [upd_same, hv, List.range_succ, List.map_append, List.map_append]
          rfl
      cases hl : least c with
      | none =>
        refine ⟨_, rfl, rfl, false, rfl, iteF ?_⟩
        refine ⟨_, rfl, .inl ⟨rfl, _, sql (s5 _ _ hfl)⟩, _, rfl, rfl, true, rfl, iteT ?_⟩
        have := fin
        rw [hl] at this
        exact this _ H5 _ _ s5 (by unfold dearAt; rw [hl]; rfl) (fun _ _ h => h)
      | some bs =>
        refine ⟨_, rfl, rfl, true, rfl, iteT ?_⟩
        refine ⟨_, rfl, _, rfl, _, rfl, _, rfl, a, b, d', moreAt c i, carts, rfl, hM, fun H6 s6 => ?_⟩
        have s46 := s5.trans s6
        have := fin
        rw [hl] at this
        cases ht : least (moreAt c i) with
        | none =>
          refine ⟨_, rfl, .inl ⟨rfl, _, sql (s46 _ _ hfl)⟩, _, rfl, rfl, true, rfl, iteT ?_⟩
          exact this _ H6 _ _ s46 (by unfold dearAt; rw [hl, ht]; rfl) (fun _ _ h => h)
        | some t =>
          refine ⟨_, rfl, .inl ⟨rfl, _, sql (s46 _ _ hfl)⟩, _, rfl, rfl, false, rfl, iteF ?_⟩
          refine ⟨_, rfl, _, rfl, _, _, rfl, rfl, ?_⟩
          exact this _ H6 _ _ s46 (by unfold dearAt; rw [hl, ht]; rfl) (fun _ _ h => h)
    · obtain ⟨y6, y7, y8, y9, rfl, s3, hfl⟩ := p
      exact ⟨_, rfl, q _ _ s3 hfl⟩
/-! ### _law_price -/
def priceV (c : Case) : V := match least c, least { c with room := c.room + 1 } with
  | some x, some y => .int (x - y)
  | _, _ => .str "none"
def sp_law_price (K : PySem.W.Frag) : Sp := fun vs H Q _ => ∃ a b d c carts, vs = [.ref a, .ref b, .ref d, .int ((c.left : Nat) : Int)] ∧ CaseAt K H a b d c carts ∧ c.room ≤ 20 ∧ ∀ H', Same H H' → Q (priceV c) H'
end
end Oa
namespace Oat
/-! ### the way from the base to a place -/
def upF (L : List Nat) : Nat → Nat → List Nat
  | 0, p => [p]
  | f + 1, p => if p = 0 then [0] else p :: upF L f (L.getD (p - 1) 0)
def upL (L : List Nat) (p : Nat) : List Nat := upF L p p
theorem upF_stable {L : List Nat} (wf : WfL L) : ∀ (f g p : Nat), p ≤ f → p ≤ g → p ≤ L.length → upF L f p = upF L g p
  | 0, 0, p, _, _, _ => rfl
  | 0, g + 1, p, h, _, _ => by
    have : p = 0 := by omega
    subst this
    rfl
  | f + 1, 0, p, _, h, _ => by
    have : p = 0 := by omega
    subst this
    rfl
  | f + 1, g + 1, p, hf, hg, hp => by
    unfold upF
    split
    · rfl
    · rename_i h0
      have := wf (p - 1) (by omega)
      rw [upF_stable wf f g _ (by omega) (by omega) (by omega)]
theorem upL_zero (L : List Nat) : upL L 0 = [0] := rfl
theorem upL_step {L : List Nat} (wf : WfL L) {p : Nat} (h0 : p ≠ 0) (hp : p ≤ L.length) : upL L p = p :: upL L (L.getD (p - 1) 0) := by
  obtain ⟨q, rfl⟩ : ∃ q, p = q + 1 := ⟨p - 1, by omega⟩
  have := wf q (by omega)
  unfold upL
  show (if q + 1 = 0 then _ else _) = _
  rw [if_neg h0]
  congr 1
  exact upF_stable wf _ _ _ (by simpa using this) (Nat.le_refl _) (by show L.getD q 0 ≤ _; omega)
def wayL (L : List Nat) (p : Nat) : List Nat := (upL L p).reverse
theorem upL_head (L : List Nat) (p : Nat) : ∃ r, upL L p = p :: r := by
  unfold upL
  cases p with
  | zero => exact ⟨[], rfl⟩
  | succ p => exact ⟨_, if_neg (Nat.succ_ne_zero p)⟩
theorem upL_last {L : List Nat} (wf : WfL L) : ∀ (n p : Nat), p ≤ n → p ≤ L.length → ∃ r, upL L p = r ++ [0]
  | n, 0, _, _ => ⟨[], rfl⟩
  | 0, p + 1, h, _ => by omega
  | n + 1, p + 1, h, hp => by
    have hw := wf p (by omega)
    obtain ⟨r, hr⟩ := upL_last wf n (L.getD p 0) (by omega) (by omega)
    rw [upL_step wf (Nat.succ_ne_zero p) hp]
    exact ⟨(p + 1) :: r, by rw [show p + 1 - 1 = p by omega, hr]; rfl⟩
theorem upL_len {L : List Nat} (wf : WfL L) : ∀ (n p : Nat), p ≤ n → p ≤ L.length → (upL L p).length ≤ p + 1
  | n, 0, _, _ => Nat.le_refl _
  | 0, p + 1, h, _ => by omega
  | n + 1, p + 1, h, hp => by
    have hw := wf p (by omega)
    rw [upL_step wf (Nat.succ_ne_zero p) hp]
    have := upL_len wf n (L.getD p 0) (by omega) (by omega)
    rw [List.length_cons, show p + 1 - 1 = p by omega]
    omega
def enoughB (c : Case) (feed : Nat) : Bool := match least c with
  | none => false
  | some x => decide (x ≤ (feed : Int))
end Oat
namespace Oa
open PySem PySem.Spec PyProof.Rows L2 Oat
section
variable {P : Program} {w : World} {K : PySem.W.Frag} {mg : Str → Option Value} {base : Heap}
/-! ### way_to -/
def sp_way_to (K : PySem.W.Frag) : Sp := fun vs H Q _ => ∃ a L p, vs = [.ref a, .int ((p : Nat) : Int)] ∧ SqT K H a (landV L) ∧ L.length < 30 ∧ WfL L ∧ p ≤ L.length ∧ ∀ l H', Same H H' → H l = none → H' l = some (.lst ((wayL L p).map fun (k : Nat) => V.int (k : Int))) → Q (.ref l) H'
theorem c_way_to (T : Txt K mg) : Cal P w K mg base CX0 4 "way_to" ["land", "place"] (sp_way_to K) := by
  refine cal0 T.d_way_to sc_way_to (fun _ _ _ _ _ _ us hl => match us, hl with | [_, _], _ => rfl) (fun vs H Q E h => ?_) (fun f cdv A outer s H vs Q E hr h => ?_)
  · obtain ⟨a, L, p, rfl, _⟩ := h
    rfl
  · obtain ⟨a, L, p, rfl, hS, hn, wf, hp, q⟩ := h
    refine ⟨_, (pss_cons (ps_expr (pcall (c_look_land T) (hr.mono (by omega)) (pa_cons (pv 0) pa_nil)))
      (pss_cons (ps_expr (pcall (c_look_place T) (hr.mono (by omega)) (pa_cons (pv 0) (pa_cons (pv 1) pa_nil))))
      (pss_cons (ps_set (i := 2) sc_way_to.nd rfl (Or.inl rfl) (pe_lst (pa_cons (pv 1) pa_nil)))
      (pss_cons (ps_while PassesOwn.never (pt_cmpR op_ne (pe_ix (ixL K) (pv 2) (pe_un un_neg pe_int) (fun _ _ => rfl)) pe_int (nomark _)) (pss_one (ps_expr (pe_bm PySem.F.plainAttrs_list PySem.F.slot_list_append PySem.F.type_list_append mt_append (pv 2) (pa_cons (pe_ix (ixT K) (pv 0) (pe_ix (ixL K) (pv 2) (pe_un un_neg pe_int) (fun _ _ => rfl)) (fun _ _ => rfl)) pa_nil)))))
      (pss_one (ps_ret (pe_revL (pv 2)))))))), ?_⟩
    refine ⟨_, rfl, a, L, rfl, hS, hn, wf, fun H1 s1 => ?_⟩
    refine ⟨_, rfl, _, rfl, a, L, p, rfl, same_t s1 hS, hp, ?_⟩
    refine ⟨_, rfl, by show 1 ≤ sizeLine; decide, fun fl nfl => ?_⟩
    have nflH : H fl = none := s1.free nfl
    refine ⟨fun m σ H2 => ∃ us x, σ = [some (.ref a), some (.int ((p : Nat) : Int)), some (.ref fl)] ∧ Same H H2 ∧ H2 fl = some (.lst ((us.map fun (k : Nat) => V.int (k : Int)) ++ [.int ((x : Nat) : Int)])) ∧ x ≤ p ∧ upL L p = us ++ upL L x ∧ us.length + x ≤ p ∧ m = x,
      ⟨p, [], p, rfl, s1.trans (same_new nfl), upd_same, Nat.le_refl _, rfl, by simp, rfl⟩, fun m σ H2 W => ?_⟩
    obtain ⟨us, x, rfl, s2, hfl, hx, hup, hul, rfl⟩ := W
    refine ⟨_, rfl, _, rfl, fl, _, _, _, rfl, rfl, sql hfl, atI_last _ _, rfl, _, rfl, ?_⟩
    rw [decI]
    by_cases h0 : m = 0
    · rw [decide_eq_true h0]
      refine iteF ?_
      subst h0
      refine ⟨_, rfl, fl, _, rfl, sql hfl, fun l nl => ?_⟩
      refine q l _ (s2.trans (same_new nl)) (s2.free nl) ?_
      rw [upd_same]
      unfold wayL
      rw [hup, upL_zero, List.map_reverse, List.map_append]
      rfl
    · rw [decide_eq_false h0]
      refine iteT ?_
      have hw := wf (m - 1) (by omega)
      have e1 : m - 1 + 1 = m := by omega
      have hla : (landV L)[m]? = some (.int ((L.getD (m - 1) 0 : Nat) : Int)) := by
        have := landV_at (L := L) (i := m - 1) (by omega)
        rw [e1] at this
        exact this
      refine ⟨_, fun _ _ z => z, _, rfl, .inl ⟨rfl, _, sql hfl⟩, _, rfl, _, rfl, _, rfl, fl, _, _, _, rfl, rfl, sql hfl, atI_last _ _, a, _, _, _, rfl, rfl, same_t s2 hS, atI_nat hla, ?_⟩
      refine ⟨fl, _, _, rfl, rfl, hfl, ?_, ?_⟩
      · rw [List.length_append, List.length_map]
        exact Nat.lt_of_le_of_lt (show us.length + 1 ≤ 1000 by omega) (small1000 (Nat.le_refl _))
      · refine ⟨L.getD (m - 1) 0, by omega, us ++ [m], L.getD (m - 1) 0, rfl, same_mut s2 nflH, ?_, by omega, ?_, ?_, rfl⟩
        · rw [upd_same, List.map_append]
          rfl
        · rw [hup, upL_step wf h0 (by omega), List.append_assoc]
          rfl
        · rw [List.length_append, List.length_singleton]
          omega
/-! ### look_feed, enough -/
def sp_look_feed : Sp := fun vs H Q _ => ∃ m, vs = [.int ((m : Nat) : Int)] ∧ m ≤ 1000000 ∧ Q .non H
def sp_enough (K : PySem.W.Frag) : Sp := fun vs H Q _ => ∃ a b d c carts feed, vs = [.ref a, .ref b, .ref d, .int ((c.left : Nat) : Int), .int ((feed : Nat) : Int)] ∧ CaseAt K H a b d c carts ∧ ∀ H', Same H H' → Q (.bl (enoughB c feed)) H'
/-! ### reached, farthest -/
def loneC (c : Case) (p u : Nat) : Case := { c with W := lone (c.L.length + 1) p u }
def nearL (c : Case) (feed : Nat) : List Nat := (List.range (c.L.length + 1)).filter fun p => enoughB (loneC c p 0) feed
def sp_reached (K : PySem.W.Frag) : Sp := fun vs H Q _ => ∃ a b d c carts feed, vs = [.ref a, .ref b, .int ((feed : Nat) : Int), .int ((c.left : Nat) : Int)] ∧ CaseAt K H a b d c carts ∧ c.room ≤ 20 ∧ feed ≤ 1000000 ∧ ∀ l H', Same H H' → H' l = some (.lst ((nearL c feed).map fun (k : Nat) => V.int (k : Int))) → Q (.ref l) H'
def stepsL (L : List Nat) (ps : List Nat) : List Int := ps.map fun p => (((wayL L p).length : Nat) : Int) - 1
def sp_farthest (K : PySem.W.Frag) : Sp := fun vs H Q _ => ∃ a b d c carts feed, vs = [.ref a, .ref b, .int ((feed : Nat) : Int), .int ((c.left : Nat) : Int)] ∧ CaseAt K H a b d c carts ∧ c.room ≤ 20 ∧ feed ≤ 1000000 ∧ nearL c feed ≠ [] ∧
  ∀ m H', Same H H' → m ∈ stepsL c.L (nearL c feed) → (∀ y ∈ stepsL c.L (nearL c feed), y ≤ m) → Q (.int m) H'
theorem near_le {c : Case} {feed p : Nat} (h : p ∈ nearL c feed) : p ≤ c.L.length := by
  have := List.mem_range.mp (List.mem_filter.mp h).1
  omega
/-! ### must_leave, least_room -/
theorem find_first {n i : Nat} {f : Nat → Bool} (hi : i < n) (h1 : f i = true) (h2 : ∀ u, u < i → f u = false) : (List.range n).find? f = some i := by
  rw [List.find?_range_eq_some]
  exact ⟨h1, List.mem_range.mpr hi, fun j hj => by rw [h2 j hj]; rfl⟩
theorem find_no {n : Nat} {f : Nat → Bool} (h : ∀ u, u < n → f u = false) : (List.range n).find? f = none := by
  rw [List.find?_range_eq_none]
  exact fun u hu => by rw [h u hu]; rfl
def leaveO (c : Case) (carts feed : Nat) : Option Nat := (List.range (carts + 1)).find? fun e => enoughB { c with left := e } feed
def sp_must_leave (K : PySem.W.Frag) : Sp := fun vs H Q _ => ∃ a b d c carts feed, vs = [.ref a, .ref b, .ref d, .int ((feed : Nat) : Int)] ∧ CaseAt K H a b d c carts ∧ c.room ≤ 20 ∧ feed ≤ 1000000 ∧ ∀ H', Same H H' → Q (optV (leaveO c carts feed)) H'
theorem CaseAt.left {H : Hp} {a b d : Addr} {c : Case} {carts e : Nat} (h : CaseAt K H a b d c carts) (he : e ≤ carts) : CaseAt K H a b d { c with left := e } carts := ⟨h.l, h.k, h.w, h.n, h.wf, h.c1, h.c6, h.r2, h.r20, h.wl, h.wo, he⟩
theorem CaseAt.works {H : Hp} {a b b2 d : Addr} {c : Case} {carts carts2 room2 : Nat} (h : CaseAt K H a b d c carts) (hb : SqT K H b2 (worksV carts2 room2)) (c1 : 1 ≤ carts2) (c6 : carts2 ≤ 6) (r2 : 2 ≤ room2) (r20 : room2 ≤ 21) (lf : c.left ≤ carts2) : CaseAt K H a b2 d { c with room := room2 } carts2 :=
  ⟨h.l, hb, h.w, h.n, h.wf, c1, c6, r2, r20, h.wl, h.wo, lf⟩
def roomO (c : Case) (feed : Nat) : Option Nat := ((List.range 19).find? fun i => enoughB { c with room := i + 2 } feed).map (· + 2)
def sp_least_room (K : PySem.W.Frag) : Sp := fun vs H Q _ => ∃ a b d c carts feed, vs = [.ref a, .int ((carts : Nat) : Int), .ref d, .int ((feed : Nat) : Int), .int ((c.left : Nat) : Int)] ∧ CaseAt K H a b d c carts ∧ feed ≤ 1000000 ∧ ∀ H', Same H H' → Q (optV (roomO c feed)) H'
/-! ### most_for -/
def sp_most_for (K : PySem.W.Frag) : Sp := fun vs H Q E => ∃ a b d c carts p feed, vs = [.ref a, .ref b, .int ((p : Nat) : Int), .int ((feed : Nat) : Int), .int ((c.left : Nat) : Int)] ∧ CaseAt K H a b d c carts ∧ c.room ≤ 20 ∧ feed ≤ 1000000 ∧ p ≤ c.L.length ∧
  (enoughB (loneC c p 0) feed = false → ∀ H', Same H H' → E (.ref (He.ga K "NoneSuch")) none H') ∧
  (enoughB (loneC c p 0) feed = true → ∀ low : Nat, low ≤ 999 → enoughB (loneC c p low) feed = true → (low = 999 ∨ enoughB (loneC c p (low + 1)) feed = false) → ∀ H', Same H H' → Q (.int ((low : Nat) : Int)) H')
end
end Oa
namespace Oat
/-! ### roads: mile by mile, from the far end -/
abbrev MTab := List (Nat × (Int × Int × Nat))
def mileRow (room : Nat) (t : List (Nat × Int)) (e : Nat) : Option (Int × Int × Nat) := (bestL (t.filter fun x => decide (x.1 ≤ e))).bind fun m => (outF room m.1 e).map fun o => (m.1 + 2 * o - e, o, m.2)
def mileUp (room : Nat) (t : List (Nat × Int)) (j : Nat) : MTab := (List.range j).filterMap fun e => (mileRow room t e).map fun r => (e, r)
def mile (room left : Nat) (t : List (Nat × Int)) : MTab := mileUp room t (left + 1)
def col (t : MTab) : List (Nat × Int) := t.map fun x => (x.1, x.2.1)
def startT (left : Nat) (units : Int) : List (Nat × Int) := (List.range (left + 1)).map fun e => (e, units)
def roadT (room left : Nat) (units : Int) : Nat → List (Nat × Int)
  | 0 => startT left units
  | k + 1 => col (mile room left (roadT room left units k))
def roadM (room left : Nat) (units : Int) (k : Nat) : MTab := mile room left (roadT room left units k)
def lineL (room left : Nat) (units : Int) (k : Nat) : Option Int := (bestL (roadT room left units k)).map (·.1)
def timesF (room left : Nat) (units : Int) : Nat → Nat → List Int
  | 0, _ => []
  | k + 1, at_ => match dget (roadM room left units k) at_ with
    | some r => r.2.1 :: timesF room left units k r.2.2
    | none => []
theorem mileUp_succ (room : Nat) (t : List (Nat × Int)) (j : Nat) : mileUp room t (j + 1) = mileUp room t j ++ (match mileRow room t j with | none => [] | some r => [(j, r)]) := by
  unfold mileUp
  rw [List.range_succ, List.filterMap_append]
  congr 1
  cases h : mileRow room t j <;> simp [h]
theorem mileUp_mem {room : Nat} {t : List (Nat × Int)} {j : Nat} {x : Nat × (Int × Int × Nat)} (h : x ∈ mileUp room t j) : x.1 < j ∧ mileRow room t x.1 = some x.2 := by
  unfold mileUp at h
  obtain ⟨e, he, h⟩ := List.mem_filterMap.mp h
  cases hr : mileRow room t e with
  | none => rw [hr] at h; cases h
  | some r =>
    rw [hr] at h
    have := Option.some.inj h
    subst this
    exact ⟨List.mem_range.mp he, hr⟩
theorem mileUp_nd (room : Nat) (t : List (Nat × Int)) : ∀ j, ((mileUp room t j).map (·.1)).Nodup
  | 0 => List.nodup_nil
  | j + 1 => by
    rw [mileUp_succ]
    cases h : mileRow room t j with
    | none => rw [List.append_nil]; exact mileUp_nd room t j
    | some r =>
      rw [List.map_append]
      refine L2.nd_snoc (mileUp_nd room t j) fun m => ?_
      obtain ⟨x, hx, e⟩ := List.mem_map.mp m
      have h1 := (mileUp_mem hx).1
      have h2 : x.1 = j := e
      omega
theorem mileUp_len (room : Nat) (t : List (Nat × Int)) (j : Nat) : (mileUp room t j).length ≤ j := by
  unfold mileUp
  have := List.length_filterMap_le (fun e => (mileRow room t e).map fun r => (e, r)) (List.range j)
  simpa using this
theorem mileUp_put {room : Nat} {t : List (Nat × Int)} {j : Nat} {r : Int × Int × Nat} (h : mileRow room t j = some r) : dput (mileUp room t j) j r = mileUp room t (j + 1) := by
  rw [Oa.dput_out (dget_none fun x hx => by have := (mileUp_mem hx).1; omega), mileUp_succ, h]
theorem mile_get {room left : Nat} {t : List (Nat × Int)} {e : Nat} (he : e ≤ left) : dget (mile room left t) e = mileRow room t e := by
  cases h : mileRow room t e with
  | none =>
    refine dget_none fun x hx => ?_
    intro z
    have := (mileUp_mem hx).2
    rw [z, h] at this
    cases this
  | some r =>
    refine dget_of_mem (mileUp_nd _ _ _) ?_
    unfold mile mileUp
    refine List.mem_filterMap.mpr ⟨e, List.mem_range.mpr (by omega), ?_⟩
    rw [h]
    rfl
theorem col_nd {t : MTab} (h : (t.map (·.1)).Nodup) : ((col t).map (·.1)).Nodup := by
  unfold col
  rw [List.map_map]
  exact h
theorem roadT_nd (room left : Nat) (units : Int) : ∀ k, ((roadT room left units k).map (·.1)).Nodup ∧ (roadT room left units k).length ≤ left + 1 ∧ ∀ x ∈ roadT room left units k, x.1 ≤ left
  | 0 => by
    refine ⟨?_, by simp [roadT, startT], fun x hx => ?_⟩
    · show (((List.range (left + 1)).map fun e => (e, units)).map (·.1)).Nodup
      rw [List.map_map]
      have : ((fun x : Nat × Int => x.1) ∘ fun e => (e, units)) = id := rfl
      rw [this, List.map_id]
      exact List.nodup_range
    · obtain ⟨e, he, rfl⟩ := List.mem_map.mp hx
      have := List.mem_range.mp he
      show e ≤ left
      omega
  | k + 1 => by
    refine ⟨col_nd (mileUp_nd _ _ _), ?_, fun x hx => ?_⟩
    · show (col _).length ≤ _
      unfold col
      rw [List.length_map]
      exact mileUp_len _ _ _
    · obtain ⟨y, hy, rfl⟩ := List.mem_map.mp hx
      have := (mileUp_mem hy).1
      show y.1 ≤ left
      omega
/-! ### one table alone -/
theorem plt_rlt (a b : Int × Nat) : rlt (a.1, [a.2]) (b.1, [b.2]) = plt a b := by
  unfold rlt plt
  dsimp only
  by_cases h : a.1 = b.1
  · rw [if_pos h, if_pos h]
    unfold lexN
    by_cases h2 : a.2 = b.2
    · rw [if_pos h2]
      unfold lexN
      exact (decide_eq_false (by omega)).symm
    · rw [if_neg h2]
  · rw [if_neg h, if_neg h]
def oneF (x : Nat × Int) : Nat × (Int × List Nat) := (x.1, (x.2, [x.1]))
theorem foldl_one {e : Nat} : ∀ (t : List (Nat × Int)) (acc : Fnd), (t.map (·.1)).Nodup → (∀ x ∈ t, ∀ y ∈ acc, y.1 ≠ x.1) → t.foldl (addRow e 0 (0, [])) acc = acc ++ (t.filter fun x => decide (x.1 ≤ e)).map oneF
  | [], acc, _, _ => by simp
  | x :: t, acc, nd, h => by
    have nd' : (x.1 :: t.map (·.1)).Nodup := nd
    obtain ⟨hx, ndt⟩ := List.nodup_cons.mp nd'
    have hne : ∀ y ∈ t, y.1 ≠ x.1 := fun y hy z => hx (List.mem_map.mpr ⟨y, hy, z⟩)
    rw [List.foldl_cons]
    have hd : dget acc x.1 = none := dget_none fun y hy => h x List.mem_cons_self y hy
    by_cases c : x.1 ≤ e
    · have ea : addRow e 0 (0, []) acc x = acc ++ [oneF x] := by
        unfold addRow
        rw [Nat.zero_add, if_pos c, Oa.dput_out hd, hd]
        unfold oneF
        have : rmin ((none : Option (Int × List Nat)).getD (0 + x.2, [] ++ [x.1])) (0 + x.2, [] ++ [x.1]) = (x.2, [x.1]) := by
          show rmin (0 + x.2, [x.1]) (0 + x.2, [x.1]) = _
          unfold rmin
          rw [Int.zero_add]
          split <;> rfl
        show acc ++ [(x.1, rmin _ _)] = _
        rw [this]
      rw [ea, foldl_one t _ ndt, List.filter_cons_of_pos (by simpa using c), List.map_cons, List.append_assoc]
      · rfl
      · intro y hy z hz
        rcases List.mem_append.mp hz with g | g
        · exact h y (List.mem_cons_of_mem _ hy) z g
        · rw [List.mem_singleton.mp g]
          exact fun q => hne y hy q.symm
    · have ea : addRow e 0 (0, []) acc x = acc := by
        unfold addRow
        rw [Nat.zero_add, if_neg c]
      rw [ea, foldl_one t acc ndt (fun y hy => h y (List.mem_cons_of_mem _ hy)), List.filter_cons_of_neg (by simpa using c)]
theorem best_one {t : List (Nat × Int)} {e : Nat} (nd : (t.map (·.1)).Nodup) : best [t] e = (bestL (t.filter fun x => decide (x.1 ≤ e))).map fun m => (m.1, [m.2]) := by
  have hF : bestF [t] e = (t.filter fun x => decide (x.1 ≤ e)).map oneF := by
    show stepBest e [(0, (0, []))] t = _
    show t.foldl (addRow e 0 (0, [])) [] = _
    rw [foldl_one t [] nd (fun _ _ y hy => by cases hy), List.nil_append]
  unfold best
  rw [hF]
  cases t.filter fun x => decide (x.1 ≤ e) with
  | nil => rfl
  | cons x r =>
    show some ((r.map oneF).foldl (fun m x => rmin m x.2) (oneF x).2) = _
    unfold bestL
    rw [Option.map_some]
    congr 1
    rw [List.foldl_map]
    have : ∀ (r : List (Nat × Int)) (m : Int × Nat), r.foldl (fun m x => rmin m (oneF x).2) (m.1, [m.2]) = ((r.foldl (fun m y => pmin m (y.2, y.1)) m).1, [(r.foldl (fun m y => pmin m (y.2, y.1)) m).2]) := by
      intro r
      induction r with
      | nil => intro m; rfl
      | cons y r ih =>
        intro m
        rw [List.foldl_cons, List.foldl_cons]
        have e1 : rmin (m.1, [m.2]) (oneF y).2 = ((pmin m (y.2, y.1)).1, [(pmin m (y.2, y.1)).2]) := by
          unfold rmin pmin oneF
          have := plt_rlt (y.2, y.1) m
          dsimp only at this ⊢
          rw [this]
          split <;> rfl
        rw [e1]
        exact ih _
    exact this r (x.2, x.1)
/-! ### a land in a row -/
def rowC (room left n units : Nat) : Case := { L := List.range n, room := room, W := (List.range (n + 1)).map fun k => if k = n then some units else none, left := left }
theorem row_wf (n : Nat) : WfL (List.range n) := fun i hi => by
  rw [List.length_range] at hi
  rw [List.getD_eq_getElem?_getD, List.getElem?_range hi]
  exact Nat.le_refl _
theorem row_kids {n p : Nat} : kids (List.range n) p = if p < n then [p + 1] else [] := by
  unfold kids
  rw [List.length_range]
  have e : ((List.range n).filter fun i => (List.range n).getD i 0 == p) = (List.range n).filter fun i => i == p := by
    refine List.filter_congr fun i hi => ?_
    have hi := List.mem_range.mp hi
    rw [List.getD_eq_getElem?_getD, List.getElem?_range hi]
    rfl
  rw [e]
  have : ∀ n, ((List.range n).filter fun i => i == p) = if p < n then [p] else [] := by
    intro n
    induction n with
    | zero => rfl
    | succ n ih =>
      rw [List.range_succ, List.filter_append, ih]
      by_cases h : p < n
      · rw [if_pos h, if_pos (by omega), List.filter_cons_of_neg (by simp; omega)]
        rfl
      · rw [if_neg h]
        by_cases h2 : n = p
        · rw [if_pos (by omega), List.filter_cons_of_pos (by simpa using h2), h2]
          rfl
        · rw [if_neg (by omega), List.filter_cons_of_neg (by simpa using h2)]
          rfl
  rw [this]
  split <;> rfl
theorem row_want {room left n units p : Nat} (hp : p ≤ n) : (rowC room left n units).W.getD p none = if p = n then some units else none := by
  show ((List.range (n + 1)).map fun k => if k = n then some units else none).getD p none = _
  rw [List.getD_eq_getElem?_getD, List.getElem?_map, List.getElem?_range (by omega)]
  rfl
theorem row_wanted {room left n units : Nat} : ∀ (k p : Nat), p + k = n → wanted (rowC room left n units).L (rowC room left n units).W p = true
  | 0, p, h => by
    rw [wanted_eq (L := (rowC room left n units).L) (row_wf n) (by show p ≤ (List.range n).length; rw [List.length_range]; omega), row_want (by omega), if_pos (by omega)]
    rfl
  | k + 1, p, h => by
    rw [wanted_eq (L := (rowC room left n units).L) (row_wf n) (by show p ≤ (List.range n).length; rw [List.length_range]; omega)]
    have hk : kids (rowC room left n units).L p = [p + 1] := by
      show kids (List.range n) p = _
      rw [row_kids, if_pos (by omega)]
    rw [hk]
    show (_ || (wanted _ _ (p + 1) || false)) = true
    rw [row_wanted k (p + 1) (by omega)]
    simp
theorem filterMap_same {α β : Type} {f g : α → Option β} : ∀ {l : List α}, (∀ x ∈ l, f x = g x) → l.filterMap f = l.filterMap g
  | [], _ => rfl
  | x :: l, h => by
    rw [List.filterMap_cons, List.filterMap_cons, h x List.mem_cons_self, filterMap_same (l := l) fun y hy => h y (List.mem_cons_of_mem _ hy)]
def asRow (k e : Nat) (r : Int × Int × Nat) : TRow := ⟨r.1, r.2.1, r.2.1 - e, if k = 0 then [] else [r.2.2]⟩
theorem startT_best {left e : Nat} {units : Int} : bestL ((startT left units).filter fun x => decide (x.1 ≤ e)) = some (units, 0) := by
  refine bestL_uniq (m := (units, 0)) ?_ fun x hx => ?_
  · refine List.mem_filter.mpr ⟨List.mem_map.mpr ⟨0, List.mem_range.mpr (by omega), rfl⟩, by simp⟩
  · obtain ⟨y, hy, rfl⟩ := List.mem_map.mp (List.mem_filter.mp hx).1
    refine plt_no.mpr ?_
    show ¬ (units < units ∨ (units = units ∧ y < 0))
    omega
theorem row_tab {room left n units : Nat} (h1 : 1 ≤ n) : ∀ (k p : Nat), p + k = n → 1 ≤ p → tab (rowC room left n units) p = (roadM room left units k).map fun x => (x.1, asRow k x.1 x.2)
  | k, p, h, hp => by
    have hpl : p ≤ (rowC room left n units).L.length := by show p ≤ (List.range n).length; rw [List.length_range]; omega
    rw [tab_eq (c := rowC room left n units) (row_wf n) hpl]
    unfold tabOf roadM mile mileUp
    show ((List.range (left + 1)).filterMap fun e => _) = _
    rw [List.map_filterMap]
    refine filterMap_same fun e he => ?_
    have hwt := row_wanted (room := room) (left := left) (units := units) k p h
    have take : ∀ (b : Int × List Nat), takenOf (rowC room left n units) p b e = (outF room b.1 e).map fun o => ⟨b.1 + 2 * o - e, o, o - e, b.2⟩ := fun b => by
      unfold takenOf
      rw [if_neg (by omega), if_neg (fun z => by rw [hwt] at z; cases z.2)]
      rfl
    cases k with
    | zero =>
      have hk : kids (rowC room left n units).L p = [] := by
        show kids (List.range n) p = _
        rw [row_kids, if_neg (by omega)]
      have hb : best ((kids (rowC room left n units).L p).map fun k => takes (tab (rowC room left n units) k)) e = some (0, []) := by rw [hk]; rfl
      have hw : wantN (rowC room left n units).W p = (units : Int) := by
        unfold wantN
        rw [row_want (by omega), if_pos (by omega)]
      rw [row_of hb, take, hw]
      show ((outF room (0 + (units : Int)) e).map _).map _ = _
      unfold mileRow
      show _ = (((bestL ((startT left units).filter fun x => decide (x.1 ≤ e))).bind _).map _).map _
      rw [startT_best, Int.zero_add]
      show ((outF room (units : Int) e).map _).map _ = (((outF room (units : Int) e).map _).map _).map _
      cases outF room (units : Int) e with
      | none => rfl
      | some o => rfl
    | succ k =>
      have hk : kids (rowC room left n units).L p = [p + 1] := by
        show kids (List.range n) p = _
        rw [row_kids, if_pos (by omega)]
      have ih := row_tab (room := room) (left := left) (units := units) h1 k (p + 1) (by omega) (by omega)
      have ht : takes (tab (rowC room left n units) (p + 1)) = roadT room left units (k + 1) := by
        rw [ih]
        unfold takes
        rw [List.map_map]
        rfl
      have hb : best ((kids (rowC room left n units).L p).map fun k => takes (tab (rowC room left n units) k)) e = (bestL ((roadT room left units (k + 1)).filter fun x => decide (x.1 ≤ e))).map fun m => (m.1, [m.2]) := by
        rw [hk]
        show best [takes (tab (rowC room left n units) (p + 1))] e = _
        rw [ht, best_one (roadT_nd _ _ _ _).1]
      have hw : wantN (rowC room left n units).W p = 0 := by
        unfold wantN
        rw [row_want (by omega), if_neg (by omega)]
      unfold mileRow
      cases hbl : bestL ((roadT room left units (k + 1)).filter fun x => decide (x.1 ≤ e)) with
      | none =>
        rw [hbl] at hb
        have hr : Oat.rowOf (rowC room left n units) p ((kids (rowC room left n units).L p).map fun k => takes (tab (rowC room left n units) k)) e = none := by
          unfold Oat.rowOf needOf
          rw [hb]
          rfl
        rw [hr]
        rfl
      | some m =>
        rw [hbl] at hb
        rw [row_of (b := (m.1, [m.2])) hb, take, hw]
        show ((outF room (m.1 + 0) e).map _).map _ = _
        rw [Int.add_zero]
        show ((outF room m.1 e).map _).map _ = (((outF room m.1 e).map _).map _).map _
        cases outF room m.1 e with
        | none => rfl
        | some o => rfl
end Oat
namespace Oat
theorem row_base {room left n units : Nat} (h1 : 1 ≤ n) (e : Nat) : Oat.rowOf (rowC room left n units) 0 ((kids (rowC room left n units).L 0).map fun k => takes (tab (rowC room left n units) k)) e = (bestL ((roadT room left units n).filter fun x => decide (x.1 ≤ e))).map fun m => ⟨m.1, 0, 0, [m.2]⟩ := by
  have hk : kids (rowC room left n units).L 0 = [1] := by
    show kids (List.range n) 0 = _
    rw [row_kids, if_pos (by omega)]
  have ht : takes (tab (rowC room left n units) 1) = roadT room left units n := by
    obtain ⟨k, rfl⟩ : ∃ k, n = k + 1 := ⟨n - 1, by omega⟩
    rw [row_tab h1 k 1 (by omega) (Nat.le_refl _)]
    unfold takes
    rw [List.map_map]
    rfl
  have hw : wantN (rowC room left n units).W 0 = 0 := by
    unfold wantN
    rw [row_want (by omega), if_neg (by omega)]
  have hb : best ((kids (rowC room left n units).L 0).map fun k => takes (tab (rowC room left n units) k)) e = (bestL ((roadT room left units n).filter fun x => decide (x.1 ≤ e))).map fun m => (m.1, [m.2]) := by
    rw [hk]
    show best [takes (tab (rowC room left n units) 1)] e = _
    rw [ht, best_one (roadT_nd _ _ _ _).1]
  cases hbl : bestL ((roadT room left units n).filter fun x => decide (x.1 ≤ e)) with
  | none =>
    rw [hbl] at hb
    unfold Oat.rowOf needOf
    rw [hb]
    rfl
  | some m =>
    rw [hbl] at hb
    rw [row_of (b := (m.1, [m.2])) hb, hw]
    unfold takenOf
    rw [if_pos rfl]
    show some (⟨m.1 + 0, 0, 0, [m.2]⟩ : TRow) = some ⟨m.1, 0, 0, [m.2]⟩
    rw [Int.add_zero]
theorem filter_best {t : List (Nat × Int)} {m : Int × Nat} (h : bestL t = some m) : bestL (t.filter fun x => decide (x.1 ≤ m.2)) = some m := by
  have hne : t ≠ [] := fun z => by rw [z] at h; cases h
  obtain ⟨n, e, h1, h2⟩ := bestL_some hne
  rw [h] at e
  have e := Option.some.inj e
  subst e
  exact bestL_uniq (List.mem_filter.mpr ⟨h1, by simp⟩) fun x hx => h2 x (List.mem_filter.mp hx).1
theorem bestL_mem {t : List (Nat × Int)} {m : Int × Nat} (h : bestL t = some m) : (m.2, m.1) ∈ t ∧ ∀ x ∈ t, plt (x.2, x.1) m = false := by
  have hne : t ≠ [] := fun z => by rw [z] at h; cases h
  obtain ⟨n, e, h1, h2⟩ := bestL_some hne
  rw [h] at e
  have e := Option.some.inj e
  subst e
  exact ⟨h1, h2⟩
theorem row_best {room left n units : Nat} (h1 : 1 ≤ n) : bestL (takes (tab (rowC room left n units) 0)) = bestL (roadT room left units n) := by
  have hmem : ∀ e v, (e, v) ∈ takes (tab (rowC room left n units) 0) → ∃ m : Int × Nat, bestL ((roadT room left units n).filter fun x => decide (x.1 ≤ e)) = some m ∧ v = m.1 := fun e v hv => by
    obtain ⟨r, hr, rfl⟩ := mem_takes.mp hv
    have := ((mem_tab (c := rowC room left n units) (row_wf n) (Nat.zero_le _)).mp hr).2
    rw [row_base h1] at this
    obtain ⟨m, hm, rfl⟩ := Option.map_eq_some_iff.mp this
    exact ⟨m, hm, rfl⟩
  cases hb : bestL (roadT room left units n) with
  | none =>
    rw [bestL_none] at hb ⊢
    refine List.eq_nil_iff_forall_not_mem.mpr fun x hx => ?_
    obtain ⟨m, hm, _⟩ := hmem x.1 x.2 hx
    rw [hb] at hm
    cases hm
  | some m =>
    obtain ⟨g1, g2⟩ := bestL_mem hb
    have hle := (roadT_nd room left units n).2.2 _ g1
    refine bestL_uniq ?_ fun x hx => ?_
    · refine mem_takes.mpr ⟨⟨m.1, 0, 0, [m.2]⟩, (mem_tab (c := rowC room left n units) (row_wf n) (Nat.zero_le _)).mpr ⟨hle, ?_⟩, rfl⟩
      rw [row_base h1, filter_best hb]
      rfl
    · obtain ⟨m', hm', hv⟩ := hmem x.1 x.2 hx
      obtain ⟨k1, _⟩ := bestL_mem hm'
      obtain ⟨k2, k3⟩ := List.mem_filter.mp k1
      have k3 : m'.2 ≤ x.1 := of_decide_eq_true k3
      have := plt_no.mp (g2 _ k2)
      refine plt_no.mpr ?_
      dsimp only at this ⊢
      omega
theorem row_least {room left n units : Nat} : least (rowC room left n units) = lineL room left units n := by
  unfold least lineL
  by_cases h1 : 1 ≤ n
  · rw [row_best h1]
  · have : n = 0 := by omega
    subst this
    have hrow : ∀ e, Oat.rowOf (rowC room left 0 units) 0 ((kids (rowC room left 0 units).L 0).map fun k => takes (tab (rowC room left 0 units) k)) e = some ⟨(units : Int), 0, 0, []⟩ := fun e => by
      have hb : best ((kids (rowC room left 0 units).L 0).map fun k => takes (tab (rowC room left 0 units) k)) e = some (0, []) := rfl
      have hw : wantN (rowC room left 0 units).W 0 = (units : Int) := by
        unfold wantN
        rw [row_want (Nat.le_refl _), if_pos rfl]
      rw [row_of hb, hw]
      unfold takenOf
      rw [if_pos rfl]
      show some (⟨0 + (units : Int), 0, 0, []⟩ : TRow) = some ⟨(units : Int), 0, 0, []⟩
      rw [Int.zero_add]
    have e1 : takes (tab (rowC room left 0 units) 0) = startT left units := by
      rw [tab_eq (c := rowC room left 0 units) (row_wf 0) (Nat.zero_le _)]
      unfold tabOf startT
      have : ((List.range ((rowC room left 0 units).left + 1)).filterMap fun e => (Oat.rowOf (rowC room left 0 units) 0 ((kids (rowC room left 0 units).L 0).map fun k => takes (tab (rowC room left 0 units) k)) e).map fun r => (e, r)) = (List.range (left + 1)).filterMap fun e => some (e, (⟨(units : Int), 0, 0, []⟩ : TRow)) := by
        refine filterMap_same fun e _ => ?_
        rw [hrow e]
        rfl
      rw [this, List.filterMap_eq_map']
      unfold takes
      rw [List.map_map]
      rfl
    rw [e1]
    rfl
/-! ### how often each mile is gone over -/
def outAt (c : Case) (cs : List Nat) (p : Nat) : Int := match dget (tab c p) (cs.getD p 0) with
  | some r => r.out
  | none => 0
theorem dget_map {α β : Type} (f : Nat → α → β) : ∀ (t : List (Nat × α)) (k : Nat), dget (t.map fun x => (x.1, f x.1 x.2)) k = (dget t k).map (f k)
  | [], _ => rfl
  | (j, a) :: t, k => by
    simp only [List.map_cons, dget]
    by_cases h : j = k
    · subst h
      rw [if_pos rfl, if_pos rfl]
      rfl
    · rw [if_neg h, if_neg h]
      exact dget_map f t k
theorem row_times {room left n units : Nat} (h1 : 1 ≤ n) {cs : List Nat} (hS : ∀ p, p ≤ (rowC room left n units).L.length → Set (rowC room left n units) cs p) : ∀ (k p : Nat), p + k = n → 1 ≤ p → timesF room left units (k + 1) (cs.getD p 0) = (List.range (k + 1)).map fun i => outAt (rowC room left n units) cs (p + i)
  | k, p, h, hp => by
    have hpl : p ≤ (rowC room left n units).L.length := by show p ≤ (List.range n).length; rw [List.length_range]; omega
    obtain ⟨r', hr', hpart⟩ := hS p hpl
    have ho : outAt (rowC room left n units) cs p = r'.out := by unfold outAt; rw [hr']
    rw [row_tab h1 k p h hp] at hr'
    have hr2 : dget ((roadM room left units k).map fun x => (x.1, asRow k x.1 x.2)) (cs.getD p 0) = (dget (roadM room left units k) (cs.getD p 0)).map (asRow k (cs.getD p 0)) := dget_map (fun e r => asRow k e r) _ _
    rw [hr2] at hr'
    obtain ⟨r, hr, rfl⟩ := Option.map_eq_some_iff.mp hr'
    have e1 : timesF room left units (k + 1) (cs.getD p 0) = r.2.1 :: timesF room left units k r.2.2 := by
      show (match dget (roadM room left units k) (cs.getD p 0) with | some r => _ | none => _) = _
      rw [hr]
    rw [e1, List.range_succ_eq_map, List.map_cons, List.map_map]
    have e2 : outAt (rowC room left n units) cs (p + 0) = r.2.1 := ho
    rw [e2]
    congr 1
    cases k with
    | zero => rfl
    | succ k =>
      have hk : kids (rowC room left n units).L p = [p + 1] := by
        show kids (List.range n) p = _
        rw [row_kids, if_pos (by omega)]
      have hq := hpart 0 (p + 1) (by rw [hk]; rfl)
      have hq : some r.2.2 = some (cs.getD (p + 1) 0) := hq
      rw [Option.some.inj hq, row_times h1 hS k (p + 1) (by omega) (by omega)]
      refine List.map_congr_left fun i _ => ?_
      show outAt _ cs (p + 1 + i) = outAt _ cs (p + (i + 1))
      congr 1
      omega
theorem row_told {room left n units : Nat} (h1 : 1 ≤ n) {cs : List Nat} (h : told (rowC room left n units) = some cs) : ∃ m, bestL (roadT room left units n) = some m ∧ timesF room left units n m.2 = (List.range n).map fun i => outAt (rowC room left n units) cs (i + 1) := by
  have hS := told_set (c := rowC room left n units) (row_wf n) h
  obtain ⟨m, hm, hcs⟩ := Option.map_eq_some_iff.mp (show (bestL (takes (tab (rowC room left n units) 0))).map (fun m => counts (rowC room left n units) m.2) = some cs from h)
  rw [row_best h1] at hm
  refine ⟨m, hm, ?_⟩
  obtain ⟨r, hr, hpart⟩ := hS 0 (Nat.zero_le _)
  have hlp := tab_row (c := rowC room left n units) (row_wf n) (Nat.zero_le _) hr
  have hrow := hlp.2
  rw [row_base h1] at hrow
  have hc0 : cs.getD 0 0 = m.2 := by
    have hm' : bestL (takes (tab (rowC room left n units) 0)) = some m := by rw [row_best h1]; exact hm
    have : ∀ i, i ≤ (rowC room left n units).L.length + 1 → ((List.range i).foldl (cntStep (rowC room left n units)) ((List.replicate ((rowC room left n units).L.length + 1) 0).set 0 m.2)).getD 0 0 = m.2 := by
      intro i
      induction i with
      | zero => intro _; simp
      | succ i ih =>
        intro hi
        have kn := known_upto (c := rowC room left n units) (row_wf n) hm' i (by omega)
        obtain ⟨_, r, hr1, hr2⟩ := known_step (c := rowC room left n units) (row_wf n) (show i ≤ (rowC room left n units).L.length by omega) kn
        rw [List.range_succ, List.foldl_append]
        show (cntStep (rowC room left n units) _ i).getD 0 0 = m.2
        rw [hr2, getD_q (setKids_out (fun z => by have := kids_gt (L := (rowC room left n units).L) (row_wf n) z; omega))]
        exact ih (by omega)
    rw [← hcs]
    exact this _ (Nat.le_refl _)
  rw [hc0, filter_best hm] at hrow
  have hrow : some (⟨m.1, 0, 0, [m.2]⟩ : TRow) = some r := hrow
  have hrow := Option.some.inj hrow
  have hk : kids (rowC room left n units).L 0 = [1] := by
    show kids (List.range n) 0 = _
    rw [row_kids, if_pos (by omega)]
  have hq := hpart 0 1 (by rw [hk]; rfl)
  rw [← hrow] at hq
  have hq : some m.2 = some (cs.getD 1 0) := hq
  obtain ⟨k, rfl⟩ : ∃ k, n = k + 1 := ⟨n - 1, by omega⟩
  rw [Option.some.inj hq, row_times h1 hS k 1 (by omega) (Nat.le_refl _)]
  refine List.map_congr_left fun i _ => ?_
  congr 1
  omega
end Oat
namespace Oat
open PySem PyProof.Rows L2
/-! ### sums over partings, told without the parting -/
inductive Sm : List (List (Nat × Int)) → Int → Nat → Prop
  | nil : Sm [] 0 0
  | cons {t : List (Nat × Int)} {ts : List (List (Nat × Int))} {k n : Nat} {v s : Int} : (k, v) ∈ t → Sm ts s n → Sm (t :: ts) (v + s) (k + n)
theorem Sm.cast {ts : List (List (Nat × Int))} {s s' : Int} {n n' : Nat} (h : Sm ts s n) (e1 : s = s') (e2 : n = n') : Sm ts s' n' := by subst e1 e2; exact h
theorem sm_snoc {ts : List (List (Nat × Int))} {s : Int} {n : Nat} (h : Sm ts s n) {tb : List (Nat × Int)} {k : Nat} {v : Int} (hk : (k, v) ∈ tb) : Sm (ts ++ [tb]) (s + v) (n + k) := by
  induction h with
  | nil => exact (Sm.cons hk .nil).cast (by omega) (by omega)
  | cons a _ ih => exact (Sm.cons a ih).cast (by omega) (by omega)
theorem sm_of {ts : List (List (Nat × Int))} {part : List Nat} {s : Int} {n : Nat} (h : Parts ts part s n) : Sm ts s n := by
  induction h with
  | nil => exact .nil
  | snoc _ hk ih => exact sm_snoc ih hk
theorem parts_cons {ts : List (List (Nat × Int))} {part : List Nat} {s : Int} {n : Nat} (h : Parts ts part s n) {t : List (Nat × Int)} {k : Nat} {v : Int} (hk : (k, v) ∈ t) : Parts (t :: ts) (k :: part) (v + s) (k + n) := by
  induction h with
  | nil =>
    have := Parts.snoc .nil hk
    rw [Int.zero_add, Nat.zero_add] at this
    rw [Int.add_zero, Nat.add_zero]
    exact this
  | snoc _ hm ih =>
    have := Parts.snoc ih hm
    rw [Int.add_assoc, Nat.add_assoc] at this
    exact this
theorem of_sm {ts : List (List (Nat × Int))} {s : Int} {n : Nat} (h : Sm ts s n) : ∃ part, Parts ts part s n := by
  induction h with
  | nil => exact ⟨_, .nil⟩
  | cons a _ ih =>
    obtain ⟨part, hp⟩ := ih
    exact ⟨_, parts_cons hp a⟩
theorem sm_perm {ts ts' : List (List (Nat × Int))} (h : ts.Perm ts') : ∀ {s : Int} {n : Nat}, Sm ts s n → Sm ts' s n := by
  induction h with
  | nil => intro s n h; exact h
  | cons x _ ih => intro s n h; cases h with | cons a b => exact .cons a (ih b)
  | swap x y l =>
    intro s n h
    cases h with
    | cons a b => cases b with
      | cons a2 b2 => exact (Sm.cons a2 (.cons a b2)).cast (by omega) (by omega)
  | trans _ _ i1 i2 => intro s n h; exact i2 (i1 h)
theorem sm_app {a b : List (List (Nat × Int))} {s : Int} {n : Nat} : Sm (a ++ b) s n ↔ ∃ s1 n1 s2 n2, Sm a s1 n1 ∧ Sm b s2 n2 ∧ s = s1 + s2 ∧ n = n1 + n2 := by
  induction a generalizing s n with
  | nil =>
    constructor
    · intro h; exact ⟨0, 0, s, n, .nil, h, by omega, by omega⟩
    · rintro ⟨s1, n1, s2, n2, h1, h2, rfl, rfl⟩
      cases h1
      exact h2.cast (by omega) (by omega)
  | cons t a ih =>
    constructor
    · intro h
      cases h with
      | cons hk hr =>
        obtain ⟨s1, n1, s2, n2, h1, h2, e1, e2⟩ := ih.mp hr
        exact ⟨_, _, s2, n2, .cons hk h1, h2, by omega, by omega⟩
    · rintro ⟨s1, n1, s2, n2, h1, h2, rfl, rfl⟩
      cases h1 with
      | cons hk hr => exact (Sm.cons hk (ih.mpr ⟨_, _, s2, n2, hr, h2, rfl, rfl⟩)).cast (by omega) (by omega)
def TEq (m : Nat) (t t' : List (Nat × Int)) : Prop := ∀ k, k ≤ m → ∀ v, (k, v) ∈ t ↔ (k, v) ∈ t'
theorem TEq.symm {m : Nat} {t t' : List (Nat × Int)} (h : TEq m t t') : TEq m t' t := fun k hk v => (h k hk v).symm
theorem sm_eq {m : Nat} : ∀ {ts ts' : List (List (Nat × Int))} {s : Int} {n : Nat}, Paired (TEq m) ts ts' → Sm ts s n → n ≤ m → Sm ts' s n
  | _, _, _, _, .nil, h, _ => h
  | _, _, _, _, .cons a b, .cons hk hr, hn => .cons ((a _ (by omega) _).mp hk) (sm_eq b hr (by omega))
theorem paired_symm {α β : Type} {R : α → β → Prop} {S : β → α → Prop} (h : ∀ x y, R x y → S y x) : ∀ {xs : List α} {ys : List β}, Paired R xs ys → Paired S ys xs
  | _, _, .nil => .nil
  | _, _, .cons a b => .cons (h _ _ a) (paired_symm h b)
/-- the least sum alone -/
def bv (ts : List (List (Nat × Int))) (e : Nat) : Option Int := (best ts e).map (·.1)
theorem bv_le {ts : List (List (Nat × Int))} {e n : Nat} {s : Int} (h : Sm ts s n) (hn : n ≤ e) : ∃ x, bv ts e = some x ∧ x ≤ s := by
  obtain ⟨part, hp⟩ := of_sm h
  obtain ⟨b, hb, hle⟩ := best_le hp hn
  exact ⟨b.1, by unfold bv; rw [hb]; rfl, hle⟩
theorem bv_some {ts : List (List (Nat × Int))} {e : Nat} {x : Int} (h : bv ts e = some x) : ∃ n, n ≤ e ∧ Sm ts x n := by
  obtain ⟨b, hb, rfl⟩ := Option.map_eq_some_iff.mp h
  obtain ⟨n, hn, hp⟩ := best_parts hb
  exact ⟨n, hn, sm_of hp⟩
theorem bv_of {ts ts' : List (List (Nat × Int))} {e : Nat} (h : ∀ s n, n ≤ e → Sm ts s n → Sm ts' s n) (h' : ∀ s n, n ≤ e → Sm ts' s n → Sm ts s n) : bv ts e = bv ts' e := by
  cases hx : bv ts e with
  | none =>
    cases hy : bv ts' e with
    | none => rfl
    | some y =>
      obtain ⟨n, hn, hs⟩ := bv_some hy
      obtain ⟨x, hx', _⟩ := bv_le (h' _ _ hn hs) hn
      rw [hx] at hx'
      cases hx'
  | some x =>
    obtain ⟨n, hn, hs⟩ := bv_some hx
    obtain ⟨y, hy, hyx⟩ := bv_le (h _ _ hn hs) hn
    obtain ⟨n2, hn2, hs2⟩ := bv_some hy
    obtain ⟨x2, hx2, hxy⟩ := bv_le (h' _ _ hn2 hs2) hn2
    rw [hx] at hx2
    have := Option.some.inj hx2
    rw [hy]
    congr 1
    omega
def tkv (c : Case) (p e : Nat) (x : Int) : Option Int := (takenOf c p (x + wantN c.W p, []) e).map (·.tk)
theorem taken_tk (c : Case) (p e : Nat) (x : Int) (l : List Nat) : (takenOf c p (x, l) e).map (·.tk) = (takenOf c p (x, []) e).map (·.tk) := by
  unfold takenOf
  split
  · rfl
  · split
    · rfl
    · cases outF c.room x e <;> rfl
theorem row_tk {c : Case} {p e : Nat} {ts : List (List (Nat × Int))} : (Oat.rowOf c p ts e).map (·.tk) = (bv ts e).bind (tkv c p e) := by
  unfold bv
  cases hb : best ts e with
  | none =>
    unfold Oat.rowOf needOf
    rw [hb]
    rfl
  | some b =>
    rw [row_of hb, taken_tk]
    rfl
theorem mem_tk {c : Case} (wf : WfL c.L) {p e : Nat} {v : Int} (hp : p ≤ c.L.length) : (e, v) ∈ takes (tab c p) ↔ e ≤ c.left ∧ (bv ((kids c.L p).map fun k => takes (tab c k)) e).bind (tkv c p e) = some v := by
  rw [mem_takes, ← row_tk]
  constructor
  · rintro ⟨r, hr, rfl⟩
    obtain ⟨h1, h2⟩ := (mem_tab wf hp).mp hr
    exact ⟨h1, by rw [h2]; rfl⟩
  · rintro ⟨h1, h2⟩
    obtain ⟨r, hr, rfl⟩ := Option.map_eq_some_iff.mp h2
    exact ⟨r, (mem_tab wf hp).mpr ⟨h1, hr⟩, rfl⟩
/-! ### a part of a land named otherwise -/
structure Named (c c' : Case) (φ : Nat → Nat) (p : Nat) : Prop where
  h1 : 1 ≤ p
  h2 : p ≤ c.L.length
  g1 : 1 ≤ φ p
  g2 : φ p ≤ c'.L.length
  ks : (kids c'.L (φ p)).Perm ((kids c.L p).map φ)
  ws : c.W.getD p none = c'.W.getD (φ p) none
theorem sm_kids {c c' : Case} {φ : Nat → Nat} {m e : Nat} {ks ks' : List Nat} (hp : ks'.Perm (ks.map φ)) (hk : ∀ k ∈ ks, TEq m (takes (tab c k)) (takes (tab c' (φ k)))) (he : e ≤ m) : bv (ks.map fun k => takes (tab c k)) e = bv (ks'.map fun k => takes (tab c' k)) e := by
  have hpair : Paired (TEq m) (ks.map fun k => takes (tab c k)) ((ks.map φ).map fun k => takes (tab c' k)) := by
    rw [List.map_map]
    exact paired_maps ks fun k h => hk k h
  have hpair' := paired_symm (S := TEq m) (fun _ _ h => h.symm) hpair
  have hpm : (ks'.map fun k => takes (tab c' k)).Perm ((ks.map φ).map fun k => takes (tab c' k)) := hp.map _
  exact bv_of (fun s n hn h => sm_perm hpm.symm (sm_eq hpair h (by omega))) (fun s n hn h => sm_eq hpair' (sm_perm hpm h) (by omega))
theorem named_tab {c c' : Case} (wf : WfL c.L) (wf' : WfL c'.L) {φ : Nat → Nat} {S : Nat → Prop} (hS : ∀ p, S p → Named c c' φ p ∧ ∀ k ∈ kids c.L p, S k) (hr : c.room = c'.room) {m : Nat} (hm : m ≤ c.left) (hm' : m ≤ c'.left) : ∀ (n p : Nat), c.L.length < n + p → S p → wanted c.L c.W p = wanted c'.L c'.W (φ p) ∧ TEq m (takes (tab c p)) (takes (tab c' (φ p)))
  | 0, p, h, hp => by have := (hS p hp).1.h2; omega
  | n + 1, p, h, hp => by
    obtain ⟨N, hk⟩ := hS p hp
    have ih : ∀ k ∈ kids c.L p, wanted c.L c.W k = wanted c'.L c'.W (φ k) ∧ TEq m (takes (tab c k)) (takes (tab c' (φ k))) := fun k h2 => by
      have := kids_gt wf h2
      exact named_tab wf wf' hS hr hm hm' n k (by omega) (hk k h2)
    have hw : wanted c.L c.W p = wanted c'.L c'.W (φ p) := by
      rw [wanted_eq wf N.h2, wanted_eq wf' N.g2, N.ws]
      congr 1
      rw [Bool.eq_iff_iff, List.any_eq_true, List.any_eq_true]
      constructor
      · rintro ⟨k, h1, h2⟩
        exact ⟨φ k, N.ks.symm.subset (List.mem_map.mpr ⟨k, h1, rfl⟩), by rw [← (ih k h1).1]; exact h2⟩
      · rintro ⟨k', h1, h2⟩
        obtain ⟨k, h3, rfl⟩ := List.mem_map.mp (N.ks.subset h1)
        exact ⟨k, h3, by rw [(ih k h3).1]; exact h2⟩
    refine ⟨hw, fun e he v => ?_⟩
    have hb := sm_kids (c := c) (c' := c') (m := m) N.ks (fun k h => (ih k h).2) he
    have ht : ∀ x, tkv c p e x = tkv c' (φ p) e x := fun x => by
      have hwn : wantN c.W p = wantN c'.W (φ p) := by unfold wantN; rw [N.ws]
      have a1 := N.h1
      have a2 := N.g1
      unfold tkv takenOf
      rw [if_neg (show ¬ p = 0 by omega), if_neg (show ¬ φ p = 0 by omega), hw, hwn, hr]
    rw [mem_tk wf N.h2, mem_tk wf' N.g2, hb]
    have : (bv ((kids c'.L (φ p)).map fun k => takes (tab c' k)) e).bind (tkv c p e) = (bv ((kids c'.L (φ p)).map fun k => takes (tab c' k)) e).bind (tkv c' (φ p) e) := by
      congr 1
      funext x
      exact ht x
    rw [this]
    exact ⟨fun h => ⟨by omega, h.2⟩, fun h => ⟨by omega, h.2⟩⟩
/-! ### the least, by what the base's parts need -/
theorem least_base {c : Case} (wf : WfL c.L) : least c = (bv ((kids c.L 0).map fun k => takes (tab c k)) c.left).map (· + wantN c.W 0) := by
  have hmem : ∀ e v, (e, v) ∈ takes (tab c 0) ↔ e ≤ c.left ∧ (bv ((kids c.L 0).map fun k => takes (tab c k)) e).map (· + wantN c.W 0) = some v := fun e v => by
    rw [mem_tk wf (Nat.zero_le _)]
    have : (bv ((kids c.L 0).map fun k => takes (tab c k)) e).bind (tkv c 0 e) = (bv ((kids c.L 0).map fun k => takes (tab c k)) e).map (· + wantN c.W 0) := by
      cases bv ((kids c.L 0).map fun k => takes (tab c k)) e with
      | none => rfl
      | some x => rfl
    rw [this]
  cases hl : least c with
  | none =>
    cases hb : bv ((kids c.L 0).map fun k => takes (tab c k)) c.left with
    | none => rfl
    | some x =>
      exfalso
      have := (hmem c.left (x + wantN c.W 0)).mpr ⟨Nat.le_refl _, by rw [hb]; rfl⟩
      unfold least at hl
      rw [Option.map_eq_none_iff, bestL_none] at hl
      rw [hl] at this
      cases this
  | some y =>
    obtain ⟨⟨e, r, hr, rfl⟩, hle⟩ := least_iff.mp hl
    obtain ⟨he, hv⟩ := (hmem e r.tk).mp (mem_takes.mpr ⟨r, hr, rfl⟩)
    obtain ⟨x, hx, hxr⟩ := Option.map_eq_some_iff.mp hv
    obtain ⟨n, hn, hs⟩ := bv_some hx
    obtain ⟨z, hz, hzx⟩ := bv_le hs (show n ≤ c.left by omega)
    rw [hz]
    have hm := (hmem c.left (z + wantN c.W 0)).mpr ⟨Nat.le_refl _, by rw [hz]; rfl⟩
    obtain ⟨r2, hr2, e2⟩ := mem_takes.mp hm
    have := hle _ _ hr2
    show some r.tk = some (z + wantN c.W 0)
    congr 1
    have hxr : x + wantN c.W 0 = r.tk := hxr
    omega
end Oat
namespace Oat
open PySem PyProof.Rows L2
/-! ### lands joined at a place -/
def shiftP (n q p : Nat) : Nat := if p = 0 then q else p + n
def joinL (L M : List Nat) (q : Nat) : List Nat := L ++ M.map (shiftP L.length q)
theorem joinL_len (L M : List Nat) (q : Nat) : (joinL L M q).length = L.length + M.length := by simp [joinL]
theorem joinL_left {L M : List Nat} {q i : Nat} (h : i < L.length) : (joinL L M q).getD i 0 = L.getD i 0 := by
  unfold joinL
  rw [List.getD_eq_getElem?_getD, List.getElem?_append_left h, ← List.getD_eq_getElem?_getD]
theorem joinL_right {L M : List Nat} {q i : Nat} (h : i < M.length) : (joinL L M q).getD (L.length + i) 0 = shiftP L.length q (M.getD i 0) := by
  unfold joinL
  rw [List.getD_eq_getElem?_getD, List.getElem?_append_right (by omega), Nat.add_sub_cancel_left, List.getElem?_map, List.getElem?_eq_getElem h, List.getD_eq_getElem?_getD, List.getElem?_eq_getElem h]
  rfl
theorem joinL_wf {L M : List Nat} {q : Nat} (w1 : WfL L) (w2 : WfL M) (hq : q ≤ L.length) : WfL (joinL L M q) := by
  intro i hi
  rw [joinL_len] at hi
  by_cases h : i < L.length
  · rw [joinL_left h]
    exact w1 i h
  · obtain ⟨j, rfl⟩ : ∃ j, i = L.length + j := ⟨i - L.length, by omega⟩
    rw [joinL_right (by omega)]
    have := w2 j (by omega)
    unfold shiftP
    split <;> omega
theorem range_split (n m : Nat) : List.range (n + m) = List.range n ++ (List.range m).map (n + ·) := by
  rw [List.range_add]
theorem joinL_kids {L M : List Nat} {q p : Nat} : kids (joinL L M q) p = kids L p ++ ((List.range M.length).filter fun i => shiftP L.length q (M.getD i 0) == p).map (fun i => L.length + i + 1) := by
  unfold kids
  rw [joinL_len, range_split, List.filter_append, List.map_append]
  congr 1
  · congr 1
    refine List.filter_congr fun i hi => ?_
    rw [joinL_left (List.mem_range.mp hi)]
  · rw [List.filter_map, List.map_map]
    have : ((List.range M.length).filter ((fun i => (joinL L M q).getD i 0 == p) ∘ (L.length + ·))) = (List.range M.length).filter fun i => shiftP L.length q (M.getD i 0) == p := by
      refine List.filter_congr fun i hi => ?_
      show ((joinL L M q).getD (L.length + i) 0 == p) = _
      rw [joinL_right (List.mem_range.mp hi)]
    rw [this]
    rfl
/-- the places of the first land but the one that the other is laid upon -/
theorem joinL_kids_l {L M : List Nat} {q p : Nat} (hp : p ≤ L.length) (hq : p ≠ q) : kids (joinL L M q) p = kids L p := by
  rw [joinL_kids]
  have : ((List.range M.length).filter fun i => shiftP L.length q (M.getD i 0) == p) = [] := by
    refine List.filter_eq_nil_iff.mpr fun i _ => ?_
    unfold shiftP
    rw [beq_iff_eq]
    split <;> omega
  rw [this, List.map_nil, List.append_nil]
theorem joinL_kids_q {L M : List Nat} {q : Nat} (hq : q ≤ L.length) : kids (joinL L M q) q = kids L q ++ (kids M 0).map (· + L.length) := by
  rw [joinL_kids]
  congr 1
  unfold kids
  rw [List.map_map]
  have : ((List.range M.length).filter fun i => shiftP L.length q (M.getD i 0) == q) = (List.range M.length).filter fun i => M.getD i 0 == 0 := by
    refine List.filter_congr fun i _ => ?_
    rw [Bool.eq_iff_iff, beq_iff_eq, beq_iff_eq]
    unfold shiftP
    split <;> omega
  rw [this]
  refine List.map_congr_left fun i _ => ?_
  show L.length + i + 1 = i + 1 + L.length
  omega
theorem joinL_kids_r {L M : List Nat} {q p : Nat} (w1 : WfL L) (hq : q ≤ L.length) (hp : 1 ≤ p) : kids (joinL L M q) (p + L.length) = (kids M p).map (· + L.length) := by
  rw [joinL_kids]
  have h0 : kids L (p + L.length) = [] := by
    refine List.eq_nil_iff_forall_not_mem.mpr fun k hk => ?_
    have := kids_gt w1 hk
    omega
  rw [h0, List.nil_append]
  unfold kids
  rw [List.map_map]
  have : ((List.range M.length).filter fun i => shiftP L.length q (M.getD i 0) == p + L.length) = (List.range M.length).filter fun i => M.getD i 0 == p := by
    refine List.filter_congr fun i _ => ?_
    rw [Bool.eq_iff_iff, beq_iff_eq, beq_iff_eq]
    unfold shiftP
    split <;> omega
  rw [this]
  refine List.map_congr_left fun i _ => ?_
  show L.length + i + 1 = i + 1 + L.length
  omega
/-! ### two lands joined at the base -/
def joinC (c0 c1 : Case) (e : Nat) : Case := { L := joinL c0.L c1.L 0, room := c0.room, W := c0.W ++ c1.W.tail, left := e }
theorem join_W0 {c0 c1 : Case} {e p : Nat} (h0 : c0.W.length = c0.L.length + 1) (hp : p ≤ c0.L.length) : (joinC c0 c1 e).W.getD p none = c0.W.getD p none := by
  show (c0.W ++ c1.W.tail).getD p none = _
  rw [List.getD_eq_getElem?_getD, List.getElem?_append_left (by omega), ← List.getD_eq_getElem?_getD]
theorem join_W1 {c0 c1 : Case} {e p : Nat} (h0 : c0.W.length = c0.L.length + 1) (hp : 1 ≤ p) : (joinC c0 c1 e).W.getD (p + c0.L.length) none = c1.W.getD p none := by
  show (c0.W ++ c1.W.tail).getD (p + c0.L.length) none = _
  rw [List.getD_eq_getElem?_getD, List.getElem?_append_right (by omega), List.getElem?_tail, List.getD_eq_getElem?_getD]
  congr 2
  omega
theorem left_bv {c : Case} (wf : WfL c.L) {k e : Nat} (hk : k ≤ e) : bv ((kids c.L 0).map fun p => takes (tab { c with left := k } p)) k = bv ((kids c.L 0).map fun p => takes (tab { c with left := e } p)) k := by
  have hT := named_tab (c := { c with left := k }) (c' := { c with left := e }) wf wf (φ := id) (S := fun p => 1 ≤ p ∧ p ≤ c.L.length) (fun p hp => ⟨⟨hp.1, hp.2, hp.1, hp.2, by rw [List.map_id]; exact List.Perm.refl _, rfl⟩, fun q hq => by have := kids_gt wf hq; exact ⟨by omega, this.2⟩⟩) rfl (m := k) (Nat.le_refl k) hk
  exact sm_kids (c := { c with left := k }) (c' := { c with left := e }) (φ := id) (m := k) (ks := kids c.L 0) (ks' := kids c.L 0) (by rw [List.map_id]) (fun p hp => by
    have := kids_gt wf hp
    exact (hT (c.L.length + 1) p (by show c.L.length < c.L.length + 1 + p; omega) ⟨by omega, this.2⟩).2) (Nat.le_refl k)
def bothO (a b : Option Int) : Option Int := match a, b with
  | some x, some y => some (x + y)
  | _, _ => none
theorem join_sum {c0 c1 : Case} (w0 : WfL c0.L) (w1 : WfL c1.L) (hr : c0.room = c1.room) (h0 : c0.W.length = c0.L.length + 1) (hb : c1.W.getD 0 none = none) {e : Nat} :
    (∀ v, least (joinC c0 c1 e) = some v → (∃ k, k ≤ e ∧ bothO (least { c0 with left := k }) (least { c1 with left := e - k }) = some v)) ∧ ∀ k v, k ≤ e → bothO (least { c0 with left := k }) (least { c1 with left := e - k }) = some v → ∃ x, least (joinC c0 c1 e) = some x ∧ x ≤ v := by
  have wj : WfL (joinC c0 c1 e).L := joinL_wf w0 w1 (Nat.zero_le _)
  have hn1 : wantN c1.W 0 = 0 := by unfold wantN; rw [hb]
  have hnj : wantN (joinC c0 c1 e).W 0 = wantN c0.W 0 := by unfold wantN; rw [join_W0 h0 (Nat.zero_le _)]
  have hT0 := named_tab (c := { c0 with left := e }) (c' := joinC c0 c1 e) w0 wj (φ := id) (S := fun p => 1 ≤ p ∧ p ≤ c0.L.length) (fun p hp => ⟨⟨hp.1, hp.2, hp.1, by show p ≤ (joinL c0.L c1.L 0).length; rw [joinL_len]; omega, by rw [List.map_id]; show (kids (joinL c0.L c1.L 0) p).Perm (kids c0.L p); rw [joinL_kids_l hp.2 (by omega)], (join_W0 h0 hp.2).symm⟩, fun q hq => by have := kids_gt w0 hq; exact ⟨by omega, this.2⟩⟩) rfl (m := e) (Nat.le_refl e) (Nat.le_refl e)
  have hT1 := named_tab (c := { c1 with left := e }) (c' := joinC c0 c1 e) w1 wj (φ := (· + c0.L.length)) (S := fun p => 1 ≤ p ∧ p ≤ c1.L.length) (fun p hp => ⟨⟨hp.1, hp.2, by omega, by show p + c0.L.length ≤ (joinL c0.L c1.L 0).length; rw [joinL_len]; omega, by show (kids (joinL c0.L c1.L 0) (p + c0.L.length)).Perm _; rw [joinL_kids_r w0 (Nat.zero_le _) hp.1], (join_W1 h0 hp.1).symm⟩, fun q hq => by have := kids_gt w1 hq; exact ⟨by omega, this.2⟩⟩) hr.symm (m := e) (Nat.le_refl e) (Nat.le_refl e)
  have hp0 : Paired (TEq e) ((kids c0.L 0).map fun k => takes (tab { c0 with left := e } k)) ((kids c0.L 0).map fun k => takes (tab (joinC c0 c1 e) k)) := paired_maps _ fun k hk => by
    have := kids_gt w0 hk
    exact (hT0 (c0.L.length + 1) k (by show c0.L.length < _; omega) ⟨by omega, this.2⟩).2
  have hp1 : Paired (TEq e) ((kids c1.L 0).map fun k => takes (tab { c1 with left := e } k)) (((kids c1.L 0).map (· + c0.L.length)).map fun k => takes (tab (joinC c0 c1 e) k)) := by
    rw [List.map_map]
    exact paired_maps _ fun k hk => by
      have := kids_gt w1 hk
      exact (hT1 (c1.L.length + 1) k (by show c1.L.length < _; omega) ⟨by omega, this.2⟩).2
  have hkj : (kids (joinC c0 c1 e).L 0).map (fun k => takes (tab (joinC c0 c1 e) k)) = ((kids c0.L 0).map fun k => takes (tab (joinC c0 c1 e) k)) ++ (((kids c1.L 0).map (· + c0.L.length)).map fun k => takes (tab (joinC c0 c1 e) k)) := by
    rw [← List.map_append]
    congr 1
    exact joinL_kids_q (Nat.zero_le _)
  have l0 : ∀ k, k ≤ e → least { c0 with left := k } = (bv ((kids c0.L 0).map fun p => takes (tab { c0 with left := e } p)) k).map (· + wantN c0.W 0) := fun k hk => by
    rw [least_base (c := { c0 with left := k }) w0]
    show (bv ((kids c0.L 0).map fun p => takes (tab { c0 with left := k } p)) k).map _ = _
    rw [left_bv w0 hk]
  have l1 : ∀ k, k ≤ e → least { c1 with left := k } = bv ((kids c1.L 0).map fun p => takes (tab { c1 with left := e } p)) k := fun k hk => by
    rw [least_base (c := { c1 with left := k }) w1]
    show (bv ((kids c1.L 0).map fun p => takes (tab { c1 with left := k } p)) k).map _ = _
    rw [left_bv w1 hk]
    show (bv _ k).map (· + wantN c1.W 0) = _
    rw [hn1]
    cases bv ((kids c1.L 0).map fun p => takes (tab { c1 with left := e } p)) k with
    | none => rfl
    | some x => show some (x + 0) = some x; rw [Int.add_zero]
  have lj := least_base wj
  rw [hnj, hkj] at lj
  have lj : least (joinC c0 c1 e) = (bv (((kids c0.L 0).map fun k => takes (tab (joinC c0 c1 e) k)) ++ (((kids c1.L 0).map (· + c0.L.length)).map fun k => takes (tab (joinC c0 c1 e) k))) e).map (· + wantN c0.W 0) := lj
  generalize ((kids c0.L 0).map fun k => takes (tab (joinC c0 c1 e) k)) = A' at hp0 lj
  generalize (((kids c1.L 0).map (· + c0.L.length)).map fun k => takes (tab (joinC c0 c1 e) k)) = B' at hp1 lj
  generalize ((kids c0.L 0).map fun p => takes (tab { c0 with left := e } p)) = A at hp0 l0
  generalize ((kids c1.L 0).map fun p => takes (tab { c1 with left := e } p)) = B at hp1 l1
  have hp0' := paired_symm (S := TEq e) (fun _ _ h => h.symm) hp0
  have hp1' := paired_symm (S := TEq e) (fun _ _ h => h.symm) hp1
  have up : ∀ k v, k ≤ e → bothO (least { c0 with left := k }) (least { c1 with left := e - k }) = some v → ∃ x, least (joinC c0 c1 e) = some x ∧ x ≤ v := fun k v hk hv => by
    rw [l0 k hk, l1 (e - k) (by omega)] at hv
    cases ha : bv A k with
    | none => rw [ha] at hv; cases hv
    | some x =>
      cases hb' : bv B (e - k) with
      | none => rw [ha, hb'] at hv; cases hv
      | some y =>
        rw [ha, hb'] at hv
        have hv : some (x + wantN c0.W 0 + y) = some v := hv
        have hv := Option.some.inj hv
        obtain ⟨n1, hn1, s1⟩ := bv_some ha
        obtain ⟨n2, hn2, s2⟩ := bv_some hb'
        obtain ⟨z, hz, hzl⟩ := bv_le (sm_app.mpr ⟨_, _, _, _, sm_eq hp0 s1 (by omega), sm_eq hp1 s2 (by omega), rfl, rfl⟩) (show n1 + n2 ≤ e by omega)
        exact ⟨z + wantN c0.W 0, by rw [lj, hz]; rfl, by omega⟩
  refine ⟨fun v hv => ?_, up⟩
  rw [lj] at hv
  obtain ⟨z, hz, hzv⟩ := Option.map_eq_some_iff.mp hv
  obtain ⟨n, hn, hs⟩ := bv_some hz
  obtain ⟨x, n1, y, n2, s1, s2, e1, e2⟩ := sm_app.mp hs
  have s1 := sm_eq hp0' s1 (by omega)
  have s2 := sm_eq hp1' s2 (by omega)
  obtain ⟨x', hx', hxx⟩ := bv_le s1 (Nat.le_refl n1)
  obtain ⟨y', hy', hyy⟩ := bv_le s2 (show n2 ≤ e - n1 by omega)
  have hb1 : bothO (least { c0 with left := n1 }) (least { c1 with left := e - n1 }) = some (x' + wantN c0.W 0 + y') := by
    rw [l0 n1 (by omega), l1 (e - n1) (by omega), hx', hy']
    rfl
  obtain ⟨w, hw, hwl⟩ := up n1 _ (by omega) hb1
  rw [lj, hv] at hw
  have hw := Option.some.inj hw
  have hzv : z + wantN c0.W 0 = v := hzv
  refine ⟨n1, by omega, ?_⟩
  rw [hb1]
  congr 1
  omega
/-! ### a road behind a road, no cart left -/
theorem bestL_single {v : Int} : bestL [(0, v)] = some (v, 0) := rfl
theorem mile0_none {room : Nat} : mile room 0 [] = [] := rfl
theorem mile0_some {room : Nat} {v : Int} : mile room 0 [(0, v)] = match outF room v 0 with | some o => [(0, (v + 2 * o - (0 : Nat), o, 0))] | none => [] := by
  have hm : mileRow room [(0, v)] 0 = (outF room v 0).map fun o => (v + 2 * o - (0 : Nat), o, 0) := rfl
  show mileUp room [(0, v)] 1 = _
  rw [mileUp_succ, hm]
  cases outF room v 0 <;> rfl
theorem road0 {room : Nat} {u : Int} : ∀ k, roadT room 0 u k = [] ∨ ∃ v, roadT room 0 u k = [(0, v)]
  | 0 => .inr ⟨u, rfl⟩
  | k + 1 => by
    show col (mile room 0 (roadT room 0 u k)) = [] ∨ _
    rcases road0 (room := room) (u := u) k with h | ⟨v, h⟩
    · left; rw [h]; rfl
    · have e : roadT room 0 u (k + 1) = col (mile room 0 [(0, v)]) := by show col (mile room 0 (roadT room 0 u k)) = _; rw [h]
      rw [h, mile0_some]
      cases ho : outF room v 0 with
      | none => exact .inl rfl
      | some o => exact .inr ⟨v + 2 * o - (0 : Nat), by rw [e, mile0_some, ho]; rfl⟩
theorem line0_none {room : Nat} {u : Int} {k : Nat} : lineL room 0 u k = none ↔ roadT room 0 u k = [] := by
  unfold lineL
  rw [Option.map_eq_none_iff, bestL_none]
theorem line0_some {room : Nat} {u v : Int} {k : Nat} : lineL room 0 u k = some v ↔ roadT room 0 u k = [(0, v)] := by
  constructor
  · intro h
    rcases road0 (room := room) (u := u) k with g | ⟨x, g⟩
    · rw [line0_none.mpr g] at h; cases h
    · unfold lineL at h
      rw [g] at h
      have h : some x = some v := h
      rw [g, Option.some.inj h]
  · intro h
    unfold lineL
    rw [h]
    rfl
theorem road_none {room : Nat} {u : Int} {b : Nat} (h : roadT room 0 u b = []) : ∀ a, roadT room 0 u (a + b) = []
  | 0 => by rw [Nat.zero_add]; exact h
  | a + 1 => by
    rw [Nat.add_right_comm]
    show col (mile room 0 (roadT room 0 u (a + b))) = []
    rw [road_none h a]
    rfl
theorem road_on {room : Nat} {u v : Int} {b : Nat} (h : roadT room 0 u b = [(0, v)]) : ∀ a, roadT room 0 u (a + b) = roadT room 0 v a
  | 0 => by rw [Nat.zero_add]; exact h
  | a + 1 => by
    rw [Nat.add_right_comm]
    show col (mile room 0 (roadT room 0 u (a + b))) = col (mile room 0 (roadT room 0 v a))
    rw [road_on h a]
theorem times_on {room : Nat} {u v : Int} {b : Nat} (h : roadT room 0 u b = [(0, v)]) : ∀ a, roadT room 0 v a ≠ [] → timesF room 0 u (a + b) 0 = timesF room 0 v a 0 ++ timesF room 0 u b 0
  | 0, _ => by rw [Nat.zero_add]; rfl
  | a + 1, hne => by
    have hM : roadM room 0 u (a + b) = roadM room 0 v a := by
      show mile room 0 (roadT room 0 u (a + b)) = mile room 0 (roadT room 0 v a)
      rw [road_on h a]
    rcases road0 (room := room) (u := v) a with g | ⟨x, g⟩
    · exact absurd (show col (mile room 0 (roadT room 0 v a)) = [] by rw [g]; rfl) hne
    · have hMv : roadM room 0 v a = mile room 0 [(0, x)] := by show mile room 0 (roadT room 0 v a) = _; rw [g]
      rw [mile0_some] at hMv
      cases ho : outF room x 0 with
      | none =>
        rw [ho] at hMv
        exact absurd (show col (roadM room 0 v a) = [] by rw [hMv]; rfl) hne
      | some o =>
        rw [ho] at hMv
        have ih := times_on h a (by rw [g]; exact fun z => nomatch z)
        rw [Nat.add_right_comm]
        show (match dget (roadM room 0 u (a + b)) 0 with | some r => r.2.1 :: timesF room 0 u (a + b) r.2.2 | none => []) = (match dget (roadM room 0 v a) 0 with | some r => r.2.1 :: timesF room 0 v a r.2.2 | none => []) ++ _
        rw [hM, hMv]
        show o :: timesF room 0 u (a + b) 0 = (o :: timesF room 0 v a 0) ++ _
        rw [ih]
        rfl
theorem line_sum {room : Nat} (h2 : 2 ≤ room) {u : Int} : ∀ k v, roadT room 0 u k = [(0, v)] → v = u + 2 * (timesF room 0 u k 0).sum ∧ u ≤ v
  | 0, v, h => by
    have h : [(0, u)] = [(0, v)] := h
    injection h with h _
    injection h with _ h
    subst h
    exact ⟨by simp [timesF], Int.le_refl _⟩
  | k + 1, v, h => by
    have h : col (mile room 0 (roadT room 0 u k)) = [(0, v)] := h
    rcases road0 (room := room) (u := u) k with g | ⟨x, g⟩
    · rw [g] at h; cases h
    · obtain ⟨ih, ih2⟩ := line_sum h2 k x g
      have hM : roadM room 0 u k = mile room 0 [(0, x)] := by show mile room 0 (roadT room 0 u k) = _; rw [g]
      rw [g, mile0_some] at h
      rw [mile0_some] at hM
      cases ho : outF room x 0 with
      | none => rw [ho] at h; cases h
      | some o =>
        rw [ho] at h hM
        have h : [(0, x + 2 * o - ((0 : Nat) : Int))] = [(0, v)] := h
        injection h with h _
        injection h with _ h
        have e : timesF room 0 u (k + 1) 0 = o :: timesF room 0 u k 0 := by
          show (match dget (roadM room 0 u k) 0 with | some r => r.2.1 :: timesF room 0 u k r.2.2 | none => []) = _
          rw [hM]
          rfl
        have := outF_pos h2 ho
        rw [e, List.sum_cons]
        constructor
        · omega
        · omega
end Oat
namespace Oat
open PySem PyProof.Rows L2
/-! ### parts -/
def par (L : List Nat) (k : Nat) : Nat := L.getD (k - 1) 0
theorem par_lt {L : List Nat} (wf : WfL L) {k : Nat} (h1 : 1 ≤ k) (h2 : k ≤ L.length) : par L k < k := by
  have := wf (k - 1) (by omega)
  unfold par
  omega
theorem up_step {L : List Nat} (wf : WfL L) {k : Nat} (h1 : 1 ≤ k) (h2 : k ≤ L.length) : upL L k = k :: upL L (par L k) := upL_step wf (by omega) h2
theorem up_le {L : List Nat} (wf : WfL L) : ∀ (n k x : Nat), k ≤ n → k ≤ L.length → x ∈ upL L k → x ≤ k
  | n, 0, x, _, _, h => by
    rw [upL_zero, List.mem_singleton] at h
    omega
  | 0, k + 1, x, h, _, _ => by omega
  | n + 1, k + 1, x, h, hp, hx => by
    rw [up_step wf (by omega) hp] at hx
    have hl := par_lt wf (show 1 ≤ k + 1 by omega) hp
    rcases List.mem_cons.mp hx with e | e
    · omega
    · have := up_le wf n (par L (k + 1)) x (by omega) (by omega) e
      omega
theorem up_self (L : List Nat) (k : Nat) : k ∈ upL L k := by
  obtain ⟨r, hr⟩ := upL_head L k
  rw [hr]
  exact List.mem_cons_self
def partL (L : List Nat) (p : Nat) : List Nat := (List.range (L.length + 1)).filter fun k => decide (p ∈ upL L k)
theorem part_start {L : List Nat} (wf : WfL L) {p : Nat} (hp : p ≤ L.length) : ((List.range (p + 1)).filter fun k => decide (p ∈ upL L k)) = [p] := by
  rw [List.range_succ, List.filter_append]
  have h1 : ((List.range p).filter fun k => decide (p ∈ upL L k)) = [] := List.filter_eq_nil_iff.mpr fun k hk => by
    have hk := List.mem_range.mp hk
    intro h
    have := up_le wf k k p (Nat.le_refl _) (by omega) (of_decide_eq_true h)
    omega
  have h2 : decide (p ∈ upL L p) = true := decide_eq_true (up_self L p)
  rw [h1, List.nil_append]
  simp only [List.filter_cons, h2, if_true, List.filter_nil]
theorem part_in {L : List Nat} (wf : WfL L) {p k : Nat} (h1 : p < k) (h2 : k ≤ L.length) : p ∈ upL L k ↔ par L k ∈ (List.range k).filter fun k => decide (p ∈ upL L k) := by
  have hl := par_lt wf (show 1 ≤ k by omega) h2
  rw [up_step wf (by omega) h2, List.mem_cons, List.mem_filter, List.mem_range, decide_eq_true_eq]
  constructor
  · rintro (e | e)
    · omega
    · exact ⟨hl, e⟩
  · intro h
    exact .inr h.2
theorem part_zero {L : List Nat} (wf : WfL L) : partL L 0 = List.range (L.length + 1) := by
  unfold partL
  refine List.filter_eq_self.mpr fun k hk => ?_
  have hk := List.mem_range.mp hk
  obtain ⟨r, hr⟩ := upL_last wf k k (Nat.le_refl _) (by omega)
  rw [hr]
  exact decide_eq_true (List.mem_append_right _ List.mem_cons_self)
/-! ### places named otherwise -/
structure Ren (L : List Nat) (φ ψ : Nat → Nat) : Prop where
  wf : WfL L
  a : ∀ k, k ≤ L.length → φ k ≤ L.length ∧ ψ (φ k) = k
  b : ∀ k, k ≤ L.length → ψ k ≤ L.length ∧ φ (ψ k) = k
  z : φ 0 = 0
  o : ∀ k, 1 ≤ k → k ≤ L.length → φ (par L k) < φ k
def renL (L : List Nat) (φ ψ : Nat → Nat) : List Nat := (List.range L.length).map fun i => φ (par L (ψ (i + 1)))
theorem renL_len (L : List Nat) (φ ψ : Nat → Nat) : (renL L φ ψ).length = L.length := by unfold renL; rw [List.length_map, List.length_range]
theorem renL_par {L : List Nat} {φ ψ : Nat → Nat} {k : Nat} (h1 : 1 ≤ k) (h2 : k ≤ L.length) : par (renL L φ ψ) k = φ (par L (ψ k)) := by
  unfold par renL
  rw [List.getD_eq_getElem?_getD, List.getElem?_map, List.getElem?_range (by omega)]
  show φ (par L (ψ (k - 1 + 1))) = _
  rw [show k - 1 + 1 = k by omega]
  rfl
section
variable {L : List Nat} {φ ψ : Nat → Nat} (R : Ren L φ ψ)
include R
theorem Ren.inj {i j : Nat} (hi : i ≤ L.length) (hj : j ≤ L.length) (h : φ i = φ j) : i = j := by
  rw [← (R.a i hi).2, h, (R.a j hj).2]
theorem Ren.z' : ψ 0 = 0 := by have := (R.a 0 (Nat.zero_le _)).2; rw [R.z] at this; exact this
theorem Ren.pos {k : Nat} (h1 : 1 ≤ k) (h2 : k ≤ L.length) : 1 ≤ φ k := by
  have := R.o k h1 h2
  omega
theorem Ren.pos' {k : Nat} (h1 : 1 ≤ k) (h2 : k ≤ L.length) : 1 ≤ ψ k := by
  cases h : ψ k with
  | zero =>
    have := (R.b k h2).2
    rw [h, R.z] at this
    omega
  | succ _ => omega
theorem Ren.at_ {k : Nat} (h1 : 1 ≤ k) (h2 : k ≤ L.length) : par (renL L φ ψ) (φ k) = φ (par L k) := by
  rw [renL_par (R.pos h1 h2) (R.a k h2).1, (R.a k h2).2]
theorem Ren.wf' : WfL (renL L φ ψ) := by
  intro i hi
  rw [renL_len] at hi
  have h1 := R.b (i + 1) (by omega)
  have h2 := R.o (ψ (i + 1)) (R.pos' (by omega) (by omega)) h1.1
  have h3 := renL_par (L := L) (φ := φ) (ψ := ψ) (k := i + 1) (by omega) (by omega)
  unfold par at h3
  rw [show i + 1 - 1 = i by omega] at h3
  rw [h3]
  rw [h1.2] at h2
  unfold par at h2
  omega
theorem Ren.sym : Ren (renL L φ ψ) ψ φ := by
  refine ⟨R.wf', fun k hk => ?_, fun k hk => ?_, R.z', fun k h1 h2 => ?_⟩
  · rw [renL_len] at hk ⊢
    exact R.b k hk
  · rw [renL_len] at hk ⊢
    exact R.a k hk
  · rw [renL_len] at h2
    have hb := R.b k h2
    have hp := R.pos' h1 h2
    have hl := par_lt R.wf hp hb.1
    rw [renL_par h1 h2, (R.a _ (by omega)).2]
    exact hl
theorem Ren.back : renL (renL L φ ψ) ψ φ = L := by
  refine List.ext_getElem? fun i => ?_
  by_cases hi : i < L.length
  · unfold renL
    rw [List.getElem?_map, List.length_map, List.length_range, List.getElem?_range hi]
    have h1 := R.a (i + 1) (by omega)
    have hl := par_lt R.wf (show 1 ≤ i + 1 by omega) (show i + 1 ≤ L.length by omega)
    show some (ψ (par (renL L φ ψ) (φ (i + 1)))) = L[i]?
    rw [R.at_ (by omega) (by omega), (R.a _ (by omega)).2]
    unfold par
    rw [show i + 1 - 1 = i by omega, List.getD_eq_getElem?_getD, List.getElem?_eq_getElem hi]
    rfl
  · rw [List.getElem?_eq_none (by rw [renL_len, renL_len]; omega), List.getElem?_eq_none (by omega)]
theorem Ren.kids {p : Nat} (hp : p ≤ L.length) : (kids (renL L φ ψ) (φ p)).Perm ((Oat.kids L p).map φ) := by
  refine (List.perm_ext_iff_of_nodup (kids_nd _ _) ?_).mpr fun j => ?_
  · refine List.Pairwise.map φ ?_ (List.Pairwise.and_mem.mp (kids_nd L p))
    intro a b ⟨ha, hb, hne⟩ e
    exact hne (R.inj (kids_gt R.wf ha).2 (kids_gt R.wf hb).2 e)
  · rw [mem_kids, List.mem_map, renL_len]
    constructor
    · rintro ⟨i, h1, h2, rfl⟩
      have hb := R.b (i + 1) (by omega)
      have hp1 := R.pos' (show 1 ≤ i + 1 by omega) (show i + 1 ≤ L.length by omega)
      have h3 := renL_par (L := L) (φ := φ) (ψ := ψ) (k := i + 1) (by omega) (by omega)
      unfold par at h3
      rw [show i + 1 - 1 = i by omega, h2] at h3
      have hl := par_lt R.wf hp1 hb.1
      refine ⟨ψ (i + 1), mem_kids.mpr ⟨ψ (i + 1) - 1, by omega, ?_, by omega⟩, hb.2⟩
      exact (R.inj hp (show par L (ψ (i + 1)) ≤ L.length by omega) h3).symm
    · rintro ⟨k, hk, rfl⟩
      have hg := kids_gt R.wf hk
      obtain ⟨i, h1, h2, rfl⟩ := mem_kids.mp hk
      have ha := R.a (i + 1) (by omega)
      have hp1 := R.pos (show 1 ≤ i + 1 by omega) (show i + 1 ≤ L.length by omega)
      refine ⟨φ (i + 1) - 1, by omega, ?_, by omega⟩
      have := R.at_ (show 1 ≤ i + 1 by omega) (show i + 1 ≤ L.length by omega)
      unfold par at this
      rw [this, show i + 1 - 1 = i by omega, h2]
theorem Ren.up : ∀ (n k : Nat), k ≤ n → k ≤ L.length → upL (renL L φ ψ) (φ k) = (upL L k).map φ
  | n, 0, _, _ => by rw [R.z, upL_zero, upL_zero, List.map_cons, R.z]; rfl
  | 0, k + 1, h, _ => by omega
  | n + 1, k + 1, h, hk => by
    have hl := par_lt R.wf (show 1 ≤ k + 1 by omega) hk
    rw [up_step R.wf' (R.pos (by omega) hk) (by rw [renL_len]; exact (R.a _ hk).1), R.at_ (by omega) hk, up_step R.wf (by omega) hk, List.map_cons, Ren.up n (par L (k + 1)) (by omega) (by omega)]
theorem Ren.way {k : Nat} (hk : k ≤ L.length) : (wayL L k).map φ = wayL (renL L φ ψ) (φ k) := by
  unfold wayL
  rw [R.up k k (Nat.le_refl _) hk, List.map_reverse]
theorem Ren.part {k : Nat} (hk : k ≤ L.length) : ((partL L k).map φ).Perm (partL (renL L φ ψ) (φ k)) := by
  refine (List.perm_ext_iff_of_nodup ?_ ?_).mpr fun j => ?_
  · refine List.Pairwise.map φ ?_ (List.Pairwise.and_mem.mp (List.Nodup.sublist List.filter_sublist List.nodup_range))
    intro a b ⟨ha, hb, hne⟩ e
    have ha := List.mem_range.mp (List.mem_filter.mp ha).1
    have hb := List.mem_range.mp (List.mem_filter.mp hb).1
    exact hne (R.inj (by omega) (by omega) e)
  · exact List.Nodup.sublist List.filter_sublist List.nodup_range
  · rw [List.mem_map]
    unfold partL
    rw [List.mem_filter, List.mem_range, renL_len, decide_eq_true_eq]
    constructor
    · rintro ⟨i, hi, rfl⟩
      obtain ⟨h1, h2⟩ := List.mem_filter.mp hi
      have h1 := List.mem_range.mp h1
      refine ⟨by have := (R.a i (by omega)).1; omega, ?_⟩
      rw [R.up i i (Nat.le_refl _) (by omega)]
      exact List.mem_map.mpr ⟨k, of_decide_eq_true h2, rfl⟩
    · rintro ⟨h1, h2⟩
      have hb := R.b j (by omega)
      refine ⟨ψ j, List.mem_filter.mpr ⟨List.mem_range.mpr (by omega), decide_eq_true ?_⟩, hb.2⟩
      rw [← hb.2, R.up (ψ j) (ψ j) (Nat.le_refl _) hb.1] at h2
      obtain ⟨x, hx, e⟩ := List.mem_map.mp h2
      have := up_le R.wf _ _ x (Nat.le_refl _) hb.1 hx
      rw [← R.inj (show x ≤ L.length by omega) hk e]
      exact hx
end
theorem ren_least {c c' : Case} {φ ψ : Nat → Nat} (R : Ren c.L φ ψ) (hL : c'.L = renL c.L φ ψ) (hr : c.room = c'.room) (hl : c.left = c'.left) (hW : ∀ k, k ≤ c.L.length → c.W.getD k none = c'.W.getD (φ k) none) : least c' = least c := by
  have wf' : WfL c'.L := by rw [hL]; exact R.wf'
  have hT := named_tab (c := c) (c' := c') R.wf wf' (φ := φ) (S := fun p => 1 ≤ p ∧ p ≤ c.L.length) (fun p hp => ⟨⟨hp.1, hp.2, R.pos hp.1 hp.2, by rw [hL, renL_len]; exact (R.a p hp.2).1, by rw [hL]; exact R.kids hp.2, hW p hp.2⟩, fun q hq => by have := kids_gt R.wf hq; exact ⟨by omega, this.2⟩⟩) hr (m := c.left) (Nat.le_refl _) (Nat.le_of_eq hl)
  have hb := sm_kids (c := c) (c' := c') (φ := φ) (m := c.left) (e := c.left) (ks := kids c.L 0) (ks' := kids c'.L 0) (by rw [hL]; have := R.kids (Nat.zero_le _); rw [R.z] at this; exact this) (fun k hk => by
    have := kids_gt R.wf hk
    exact (hT (c.L.length + 1) k (by omega) ⟨by omega, this.2⟩).2) (Nat.le_refl _)
  have hw : wantN c'.W 0 = wantN c.W 0 := by
    unfold wantN
    have := hW 0 (Nat.zero_le _)
    rw [R.z] at this
    rw [this]
  rw [least_base R.wf, least_base wf', hw, ← hl, hb]
/-! ### nothing wanted: nothing is needed -/
theorem sm_null : ∀ (ts : List (List (Nat × Int))), (∀ tb ∈ ts, (0, (0 : Int)) ∈ tb) → Sm ts 0 0
  | [], _ => .nil
  | t :: ts, h => (Sm.cons (h t List.mem_cons_self) (sm_null ts fun tb htb => h tb (List.mem_cons_of_mem _ htb))).cast (by omega) (by omega)
theorem sm_nn {ts : List (List (Nat × Int))} {s : Int} {n : Nat} (h : Sm ts s n) : (∀ tb ∈ ts, ∀ k v, (k, v) ∈ tb → 0 ≤ v) → 0 ≤ s := by
  induction h with
  | nil => intro _; exact Int.le_refl _
  | @cons t ts k n v s hk _ ih =>
    intro hh
    have h1 := hh t List.mem_cons_self k v hk
    have h2 := ih fun tb htb => hh tb (List.mem_cons_of_mem _ htb)
    omega
theorem unwanted_tab {c : Case} (wf : WfL c.L) : ∀ (n p : Nat), c.L.length < n + p → 1 ≤ p → p ≤ c.L.length → wanted c.L c.W p = false → (0, (0 : Int)) ∈ takes (tab c p)
  | 0, p, h, _, h2, _ => by omega
  | n + 1, p, h, h1, h2, hw => by
    have hw0 := hw
    rw [wanted_eq wf h2, Bool.or_eq_false_iff] at hw
    have hk : ∀ tb ∈ (kids c.L p).map (fun k => takes (tab c k)), (0, (0 : Int)) ∈ tb := fun tb htb => by
      obtain ⟨k, hk, rfl⟩ := List.mem_map.mp htb
      have hg := kids_gt wf hk
      refine unwanted_tab wf n k (by omega) (by omega) hg.2 ?_
      have := List.any_eq_false.mp hw.2 k hk
      cases hx : wanted c.L c.W k with
      | false => rfl
      | true => exact absurd hx this
    obtain ⟨x, hx, _⟩ := bv_le (sm_null _ hk) (Nat.le_refl 0)
    refine (mem_tk wf h2).mpr ⟨Nat.zero_le _, ?_⟩
    rw [hx]
    show tkv c p 0 x = some 0
    unfold tkv takenOf
    rw [if_neg (show ¬ p = 0 by omega), if_pos ⟨rfl, hw0⟩]
    rfl
theorem bv_more {a b : List (List (Nat × Int))} {e : Nat} (h0 : ∀ tb ∈ b, (0, (0 : Int)) ∈ tb) (hn : ∀ tb ∈ b, ∀ k v, (k, v) ∈ tb → 0 ≤ v) : bv (a ++ b) e = bv a e := by
  cases hx : bv a e with
  | none =>
    cases hy : bv (a ++ b) e with
    | none => rfl
    | some y =>
      obtain ⟨n, hn', hs⟩ := bv_some hy
      obtain ⟨s1, n1, s2, n2, g1, g2, _, _⟩ := sm_app.mp hs
      obtain ⟨x, hx', _⟩ := bv_le g1 (show n1 ≤ e by omega)
      rw [hx] at hx'
      cases hx'
  | some x =>
    obtain ⟨n, hn', hs⟩ := bv_some hx
    obtain ⟨y, hy, hyx⟩ := bv_le (sm_app.mpr ⟨_, _, _, _, hs, sm_null b h0, rfl, rfl⟩) (show n + 0 ≤ e by omega)
    obtain ⟨m, hm, hs2⟩ := bv_some hy
    obtain ⟨s1, n1, s2, n2, g1, g2, e1, e2⟩ := sm_app.mp hs2
    have := sm_nn g2 hn
    obtain ⟨x2, hx2, hxx⟩ := bv_le g1 (show n1 ≤ e by omega)
    rw [hx] at hx2
    have := Option.some.inj hx2
    rw [hy]
    congr 1
    omega
/-! ### a land joined: the parts of both -/
theorem up_left {L M : List Nat} {q : Nat} (w1 : WfL L) (w2 : WfL M) (hq : q ≤ L.length) : ∀ (n p : Nat), p ≤ n → p ≤ L.length → upL (joinL L M q) p = upL L p
  | n, 0, _, _ => rfl
  | 0, p + 1, h, _ => by omega
  | n + 1, p + 1, h, hp => by
    have hl := par_lt w1 (show 1 ≤ p + 1 by omega) hp
    have e : par (joinL L M q) (p + 1) = par L (p + 1) := by
      unfold par
      rw [show p + 1 - 1 = p by omega, joinL_left (by omega)]
    rw [up_step (joinL_wf w1 w2 hq) (by omega) (by rw [joinL_len]; omega), up_step w1 (by omega) hp, e, up_left w1 w2 hq n (par L (p + 1)) (by omega) (by omega)]
theorem up_right {L M : List Nat} {q : Nat} (w1 : WfL L) (w2 : WfL M) (hq : q ≤ L.length) : ∀ (n k : Nat), k ≤ n → 1 ≤ k → k ≤ M.length → upL (joinL L M q) (k + L.length) = ((upL M k).dropLast).map (· + L.length) ++ upL L q
  | 0, k, h, h1, _ => by omega
  | n + 1, k, h, h1, hk => by
    have hl := par_lt w2 h1 hk
    have e : par (joinL L M q) (k + L.length) = shiftP L.length q (par M k) := by
      unfold par
      rw [show k + L.length - 1 = L.length + (k - 1) by omega, joinL_right (by omega)]
    rw [up_step (joinL_wf w1 w2 hq) (by omega) (by rw [joinL_len]; omega), up_step w2 h1 hk, e]
    unfold shiftP
    by_cases h0 : par M k = 0
    · rw [if_pos h0, h0, upL_zero, up_left w1 w2 hq q q (Nat.le_refl _) hq]
      rfl
    · rw [if_neg h0, up_right w1 w2 hq n (par M k) (by omega) (by omega) (by omega)]
      obtain ⟨r, hr⟩ := upL_head M (par M k)
      rw [hr]
      rfl
theorem way_right {L M : List Nat} {q : Nat} (w1 : WfL L) (w2 : WfL M) (hq : q ≤ L.length) {k : Nat} (h1 : 1 ≤ k) (hk : k ≤ M.length) : wayL (joinL L M q) (k + L.length) = wayL L q ++ ((wayL M k).drop 1).map (· + L.length) := by
  unfold wayL
  rw [up_right w1 w2 hq k k (Nat.le_refl _) h1 hk, List.reverse_append, ← List.map_reverse, List.drop_one, List.tail_reverse]
def wideC (c : Case) (M : List Nat) (q : Nat) : Case := { c with L := joinL c.L M q, W := c.W ++ List.replicate M.length none }
theorem wide_W {c : Case} {M : List Nat} {q p : Nat} (h0 : c.W.length = c.L.length + 1) : (wideC c M q).W.getD p none = if p ≤ c.L.length then c.W.getD p none else none := by
  show (c.W ++ List.replicate M.length none).getD p none = _
  rw [List.getD_eq_getElem?_getD]
  by_cases h : p ≤ c.L.length
  · rw [if_pos h, List.getElem?_append_left (by omega), ← List.getD_eq_getElem?_getD]
  · rw [if_neg h, List.getElem?_append_right (by omega), List.getElem?_replicate]
    split <;> rfl
theorem wide_new {c : Case} {M : List Nat} {q : Nat} (w1 : WfL c.L) (w2 : WfL M) (hq : q ≤ c.L.length) (h0 : c.W.length = c.L.length + 1) : ∀ (n k : Nat), M.length < n + k → 1 ≤ k → k ≤ M.length → wanted (wideC c M q).L (wideC c M q).W (k + c.L.length) = false
  | 0, k, h, _, hk => by omega
  | n + 1, k, h, h1, hk => by
    have wj : WfL (wideC c M q).L := joinL_wf w1 w2 hq
    rw [wanted_eq wj (by show _ ≤ (joinL c.L M q).length; rw [joinL_len]; omega), wide_W h0, if_neg (by omega)]
    show (false || _) = false
    rw [Bool.false_or, List.any_eq_false]
    intro j hj
    have hj : j ∈ kids (joinL c.L M q) (k + c.L.length) := hj
    rw [joinL_kids_r w1 hq h1] at hj
    obtain ⟨i, hi, rfl⟩ := List.mem_map.mp hj
    have hg := kids_gt w2 hi
    rw [wide_new w1 w2 hq h0 n i (by omega) (by omega) hg.2]
    exact Bool.false_ne_true
theorem wide_tab {c : Case} {M : List Nat} {q : Nat} (w1 : WfL c.L) (w2 : WfL M) (hq : q ≤ c.L.length) (h0 : c.W.length = c.L.length + 1) (h2 : 2 ≤ c.room) : ∀ (n p : Nat), c.L.length < n + p → p ≤ c.L.length →
    wanted c.L c.W p = wanted (wideC c M q).L (wideC c M q).W p ∧ (∀ e, e ≤ c.left → bv ((kids c.L p).map fun k => takes (tab c k)) e = bv ((kids (wideC c M q).L p).map fun k => takes (tab (wideC c M q) k)) e) ∧ (1 ≤ p → TEq c.left (takes (tab c p)) (takes (tab (wideC c M q) p)))
  | 0, p, h, hp => by omega
  | n + 1, p, h, hp => by
    have wj : WfL (wideC c M q).L := joinL_wf w1 w2 hq
    have hpj : p ≤ (wideC c M q).L.length := by show p ≤ (joinL c.L M q).length; rw [joinL_len]; omega
    have ih : ∀ k ∈ kids c.L p, wanted c.L c.W k = wanted (wideC c M q).L (wideC c M q).W k ∧ TEq c.left (takes (tab c k)) (takes (tab (wideC c M q) k)) := fun k hk => by
      have hg := kids_gt w1 hk
      have := wide_tab w1 w2 hq h0 h2 n k (by omega) hg.2
      exact ⟨this.1, this.2.2 (by omega)⟩
    have hWp : (wideC c M q).W.getD p none = c.W.getD p none := by rw [wide_W h0, if_pos hp]
    obtain ⟨B, hkids, hB⟩ : ∃ B, kids (wideC c M q).L p = kids c.L p ++ B ∧ ∀ j ∈ B, wanted (wideC c M q).L (wideC c M q).W j = false ∧ 1 ≤ j ∧ j ≤ (wideC c M q).L.length := by
      by_cases e : p = q
      · subst e
        refine ⟨_, joinL_kids_q hq, fun j hj => ?_⟩
        obtain ⟨i, hi, rfl⟩ := List.mem_map.mp hj
        have hg := kids_gt w2 hi
        exact ⟨wide_new w1 w2 hq h0 (M.length + 1) i (by omega) (by omega) hg.2, by omega, by show _ ≤ (joinL c.L M p).length; rw [joinL_len]; omega⟩
      · exact ⟨[], by rw [List.append_nil]; exact joinL_kids_l hp e, fun _ h => nomatch h⟩
    have hw : wanted c.L c.W p = wanted (wideC c M q).L (wideC c M q).W p := by
      rw [wanted_eq w1 hp, wanted_eq wj hpj, hWp, hkids, List.any_append]
      have hBf : B.any (wanted (wideC c M q).L (wideC c M q).W) = false := List.any_eq_false.mpr fun j hj => by rw [(hB j hj).1]; exact Bool.false_ne_true
      rw [hBf, Bool.or_false]
      congr 1
      rw [Bool.eq_iff_iff, List.any_eq_true, List.any_eq_true]
      exact ⟨fun ⟨k, g1, g2⟩ => ⟨k, g1, by rw [← (ih k g1).1]; exact g2⟩, fun ⟨k, g1, g2⟩ => ⟨k, g1, by rw [(ih k g1).1]; exact g2⟩⟩
    have hbv : ∀ e, e ≤ c.left → bv ((kids c.L p).map fun k => takes (tab c k)) e = bv ((kids (wideC c M q).L p).map fun k => takes (tab (wideC c M q) k)) e := fun e he => by
      rw [hkids, List.map_append, bv_more]
      · exact sm_kids (c := c) (c' := wideC c M q) (φ := id) (m := c.left) (ks := kids c.L p) (ks' := kids c.L p) (by rw [List.map_id]) (fun k hk => (ih k hk).2) he
      · intro tb htb
        obtain ⟨j, hj, rfl⟩ := List.mem_map.mp htb
        have := hB j hj
        exact unwanted_tab wj ((wideC c M q).L.length + 1) j (by omega) this.2.1 this.2.2 this.1
      · intro tb htb k v hv
        obtain ⟨j, hj, rfl⟩ := List.mem_map.mp htb
        have := hB j hj
        exact tab_nn wj h2 ((wideC c M q).L.length + 1) j (by omega) this.2.2 k v hv
    refine ⟨hw, hbv, fun h1 e he v => ?_⟩
    have ht : ∀ x, tkv c p e x = tkv (wideC c M q) p e x := fun x => by
      have hwn : wantN c.W p = wantN (wideC c M q).W p := by unfold wantN; rw [hWp]
      unfold tkv takenOf
      rw [if_neg (show ¬ p = 0 by omega), if_neg (show ¬ p = 0 by omega), hw, hwn]
      rfl
    rw [mem_tk w1 hp, mem_tk wj hpj, hbv e he]
    have : (bv ((kids (wideC c M q).L p).map fun k => takes (tab (wideC c M q) k)) e).bind (tkv c p e) = (bv ((kids (wideC c M q).L p).map fun k => takes (tab (wideC c M q) k)) e).bind (tkv (wideC c M q) p e) := by
      congr 1
      funext x
      exact ht x
    rw [this]
    exact Iff.rfl
theorem wide_least {c : Case} {M : List Nat} {q : Nat} (w1 : WfL c.L) (w2 : WfL M) (hq : q ≤ c.L.length) (h0 : c.W.length = c.L.length + 1) (h2 : 2 ≤ c.room) : least (wideC c M q) = least c := by
  have wj : WfL (wideC c M q).L := joinL_wf w1 w2 hq
  have := (wide_tab w1 w2 hq h0 h2 (c.L.length + 1) 0 (by omega) (Nat.zero_le _)).2.1 c.left (Nat.le_refl _)
  have hw : wantN (wideC c M q).W 0 = wantN c.W 0 := by unfold wantN; rw [wide_W h0, if_pos (Nat.zero_le _)]
  rw [least_base w1, least_base wj, hw, this]
  rfl
end Oat
namespace Oa
open PySem PySem.Spec PyProof.Rows L2
section
variable {X : Cx}
/-- name = {k: v for ..} on one line, the name a local of the def: stored before the block's names go -/
theorem ps_setDc {i : Nat} {y : Str} {py : Pos} {ek ev tgt src : Expr} {cs : List Expr} {scp : Scope} {own : List (Str × Nat)} {dpos spos : Pos} {wi : TI} {g : TG} {tt : TT} {tk tv : TE} (hcalm : X.calm = true) (hnd : X.N.Nodup) (hyi : X.N[i]? = some y) (hloc : X.env.scope.names.lookup y = some .local)
    (swp : swapsWith (.DictComp ek ev [⟨tgt, src, cs, 0⟩] scp dpos) (some (.Name y py)) spos.line X.env = pure true) (it : PI X tgt src wi) (bok : BlkOk X.N X.env.scope scp own)
    (pgo : ∀ (s : Shared) (H : Hp) (C : Addr) (cl : List (Str × Addr)) (fp : List Addr), PG (X.blk s H scp (compEnvC scp cl C X.env) fp) tgt g) (pto : ∀ (s : Shared) (H : Hp) (C : Addr) (cl : List (Str × Addr)) (fp : List Addr), PTs (X.blk s H scp (compEnvC scp cl C X.env) fp) cs tt)
    (pko : ∀ (s : Shared) (H : Hp) (C : Addr) (cl : List (Str × Addr)) (fp : List Addr), PE (X.blk s H scp (compEnvC scp cl C X.env) fp) ek tk)
    (pvo : ∀ (s : Shared) (H : Hp) (C : Addr) (cl : List (Str × Addr)) (fp : List Addr), PE (X.blk s H scp (compEnvC scp cl C X.env) fp) ev tv) (hfold : ∀ x, foldedSetIterable src X.env x = pure x := by intro _; rfl) :
    PS X (.Assign [.Name y py] (.DictComp ek ev [⟨tgt, src, cs, 0⟩] scp dpos) spos) (tAsg (tDc wi g tt tk tv (own.map (·.2))) (gName i)) := by
  refine ⟨fun pins s σ H Dn I0 hh => ?_⟩
  rw [exec_Assign_Name_used _ _ _ _ swp]
  refine wpAny_bind (wpAny_standAt (wpAny_bind ?_))
  show wpAny _ X.A (do let _ ← comprehension (.DictComp ek ev [⟨tgt, src, cs, 0⟩] scp dpos) scp X.env (firstIterPos [⟨tgt, src, cs, 0⟩] dpos) newDict false (eval src X.env) (some (assign (.Name y py) X.env))) _ _ s
  have hh2 : tDc wi g tt tk tv (own.map (·.2)) σ H (fun x H1 => gName i x σ H1 Dn.nx) := hh
  refine wpAny_bind (thn (dc_core (Qf := fun _ s' => SP X pins Dn .next s') hcalm hnd I0 it bok pgo pto pko pvo hfold hh2 fun Ld Cd sd md Hd Id qd nsd fpd => ?_) fun _ se he => wpAny_pure (wpAny_pure he))
  show wpAny _ _ (assign (.Name y py) X.env (.ref Ld)) _ _ _
  refine wpAny_assign_Name (store_ok2 (v := V.ref Ld) Id hnd hyi (.inl hloc) rfl (fun sf If ⟨ad, sbd, had⟩ => ?_) (.inr hloc))
  obtain ⟨g0, g1, g2, g3, g4, g5⟩ := fpd
  have hne : Cd ≠ ad := by
    rcases had with z | z
    · rw [z]; exact g1
    · exact fun e => g4 y ad z e.symm
  refine ⟨md, nsd.sameBut sbd hne, fun hz sbz => ?_⟩
  exact ⟨_, Hd, If.turned (t' := sf.toks) (fun b o hb e => (sbz.2 b hb).trans e) g0 g1 g3 g4 g5, qd⟩
theorem swd_true {ek ev : Expr} {gs : List Comprehension} {scp : Scope} {dpos py : Pos} {y : Str} {l : Nat} {env : Env} (hkd : env.scope.kind = .function) (hlo : env.scope.names.lookup y = some .local) (hli : (py.line == dpos.line) = true)
    (hno : (scp.names.any fun (n, k) => n == y && (k == .local || k == .cell)) = false) : swapsWith (.DictComp ek ev gs scp dpos) (some (.Name y py)) l env = pure true := by
  have kl : env.kindOf y = some .local := hlo
  have bk : env.blockKind = .function := by unfold Env.blockKind; rw [hkd]; rfl
  unfold swapsWith
  simp only [bk, kl, hno, Expr.pos, hli]
  rfl
end
end Oa
namespace Oa
open PySem PySem.Spec PyProof.Rows L2 Oat
section
variable {P : Program} {w : World} {K : PySem.W.Frag} {mg : Str → Option Value} {base : Heap}
/-! ### dict comprehensions over a walk -/
theorem dc_it {J : It} {n : Nat} {G : Hp → Prop} {Y : Nat → Hp → V → Hp → Prop} (w : Walk J n G Y) {g : TG} {tt : TT} {tk tv : TE} {vs : List Nat} {σ : L2.St} {H1 : Hp} {D : Addr} {Qd : Hp → Prop} (Pv : Nat → Hp → Prop) (h0 : Pv 0 (upd H1 D (.dK []))) (hG : ∀ i H, i ≤ n → Pv i H → G H)
    (hs : ∀ i x H H', i < n → Pv i H → Y i H x H' → g x (wipe σ vs) H' fun σ2 H2 => wipe σ2 vs = wipe σ vs ∧ tt σ2 H2 fun b H3 =>
      if b = true then tk σ2 H3 fun y H4 => tv σ2 H4 fun z H5 => ∃ kvs k, y = kV k ∧ H5 D = some (.dK kvs) ∧ kvs.length < sizeLine ∧ Pv (i + 1) (upd H5 D (.dK (putK kvs k z))) else Pv (i + 1) H3) (hd : ∀ H, Pv n H → Qd H) :
    ∃ W : Nat → Nat → Hp → Prop, (∃ m, W 0 m (upd H1 D (.dK []))) ∧ ∀ i m H, W i m H →
      (J.stop i H ∧ Qd H) ∨ (J.go i H ∧ ∃ Nx : Hp → Prop, (∀ H', Nx H' → ∃ m', m' < m ∧ W (i + 1) m' H') ∧ ∀ x H', J.yld i H x H' → g x (wipe σ vs) H' fun σ2 H2 => wipe σ2 vs = wipe σ vs ∧ tt σ2 H2 fun b H3 =>
        if b = true then tk σ2 H3 fun y H4 => tv σ2 H4 fun z H5 => ∃ kvs k, y = kV k ∧ H5 D = some (.dK kvs) ∧ kvs.length < sizeLine ∧ Nx (upd H5 D (.dK (putK kvs k z))) else Nx H3) := by
  refine ⟨fun i m H => m = n - i ∧ i ≤ n ∧ Pv i H, ⟨n, by simp, Nat.zero_le _, h0⟩, ?_⟩
  rintro i m H ⟨rfl, hi, p⟩
  have q := hG i H hi p
  by_cases hlt : i < n
  · exact .inr ⟨w.goes i H hlt q, Pv (i + 1), fun H' p' => ⟨n - (i + 1), by omega, rfl, hlt, p'⟩, fun x H' y => hs i x H H' hlt p (w.yields i H x H' hlt q y)⟩
  · have e : i = n := by omega
    subst e
    exact .inl ⟨w.stops H q, hd H p⟩
/-! ### tables of whole numbers, of mile rows -/
def ITab (H : Hp) (v : V) (t : List (Nat × Int)) : Prop := ∃ d kvs, v = .ref d ∧ H d = some (.dK kvs) ∧ PairD (fun v (i : Int) => v = .int i) kvs t
theorem ITab.same {H H' : Hp} {v : V} {t : List (Nat × Int)} (h : ITab H v t) (s : Same H H') : ITab H' v t := by
  obtain ⟨d, kvs, e, hd, hp⟩ := h
  exact ⟨d, kvs, e, s _ _ hd, hp⟩
def MRow (K : PySem.W.Frag) (H : Hp) (v : V) (r : Int × Int × Nat) : Prop := ∃ p, v = .ref p ∧ SqT K H p [.int r.1, .int r.2.1, .int ((r.2.2 : Nat) : Int)]
theorem MRow.tx {H H' : Hp} {v : V} {r : Int × Int × Nat} (h : MRow K H v r) (x : TExt H H') : MRow K H' v r := by
  obtain ⟨p, e, h⟩ := h
  exact ⟨p, e, x.t h⟩
def MTabAt (K : PySem.W.Frag) (H : Hp) (v : V) (t : MTab) : Prop := ∃ d kvs, v = .ref d ∧ H d = some (.dK kvs) ∧ PairD (MRow K H) kvs t
theorem MTabAt.same {H H' : Hp} {v : V} {t : MTab} (h : MTabAt K H v t) (s : Same H H') : MTabAt K H' v t := by
  obtain ⟨d, kvs, e, hd, hp⟩ := h
  exact ⟨d, kvs, e, s _ _ hd, pd_imp hp fun _ _ q => q.tx (same_tx s)⟩
/-! ### look_line -/
def sp_look_line : Sp := fun vs H Q _ => ∃ m u : Nat, vs = [.int (m : Int), .int (u : Int)] ∧ m ≤ 400 ∧ u ≤ 999 ∧ Q .non H
/-! ### the least of those that are small enough: sorted pairs -/
/-- what sorted([(table[k], k) for k in table if k <= e]) begins with -/
def SrtHead (H : Hp) (D : Addr) (t : List (Nat × Int)) : Prop := ∃ zs, H D = some (.lst zs) ∧ zs.isEmpty = t.isEmpty ∧ ∀ m, bestL t = some m → ∃ p rest, zs = .ref p :: rest ∧ H p = some (.tup [.int m.1, .int ((m.2 : Nat) : Int)])
theorem SrtHead.same {H H' : Hp} {D : Addr} {t : List (Nat × Int)} (h : SrtHead H D t) (s : Same H H') : SrtHead H' D t := by
  obtain ⟨zs, h1, h2, h3⟩ := h
  refine ⟨zs, s _ _ h1, h2, fun m hm => ?_⟩
  obtain ⟨p, rest, e, hp⟩ := h3 m hm
  exact ⟨p, rest, e, s _ _ hp⟩
theorem srt_head {H H' : Hp} {D : Addr} {t : List (Nat × Int)} {ys zs : List V} (hpr : Paired (fun v (e : Nat × Int) => ∃ p, v = .ref p ∧ H p = some (.tup [.int e.2, .int ((e.1 : Nat) : Int)])) ys t) (srt : zs.Pairwise fun a b => SrtO.lexB (pairK H b) (pairK H a) = false) (prm : zs.Perm ys) (s : Same H H') (hD : H' D = some (.lst zs)) : SrtHead H' D t := by
  have hkey : ∀ v ∈ ys, ∃ e ∈ t, ∃ p, v = .ref p ∧ H p = some (.tup [.int e.2, .int ((e.1 : Nat) : Int)]) := fun v hv => paired_mem hpr hv
  refine ⟨zs, hD, ?_, fun m hm => ?_⟩
  · have h1 := Paired.length hpr
    have h2 := prm.length_eq
    rw [Bool.eq_iff_iff, List.isEmpty_iff_length_eq_zero, List.isEmpty_iff_length_eq_zero]
    omega
  · cases zs with
    | nil =>
      have hys : ys = [] := prm.nil_eq.symm
      rw [hys] at hpr
      cases hpr
      cases hm
    | cons z zs =>
      obtain ⟨e, he, pz, rfl, hpz⟩ := hkey z (prm.subset List.mem_cons_self)
      have hb : bestL t = some (e.2, e.1) := by
        refine bestL_uniq he fun x hx => ?_
        obtain ⟨v, hv, pv, rfl, hpv⟩ := paired_mem' hpr hx
        have hv' : V.ref pv ∈ V.ref pz :: zs := prm.symm.subset hv
        rcases List.mem_cons.mp hv' with h | h
        · injection h with h
          subst h
          rw [hpz] at hpv
          injection hpv with hpv
          injection hpv with hpv
          injection hpv with e1 e2
          injection e1 with e1
          injection e2 with e2 _
          injection e2 with e2
          refine plt_no.mpr ?_
          dsimp only
          omega
        · have hl := List.rel_of_pairwise_cons srt h
          have hl : SrtO.lexB (pairK H (.ref pv)) (pairK H (.ref pz)) = false := hl
          rw [pairK_at hpz, pairK_at hpv] at hl
          have hl := SrtO.lexB_no.mp hl
          refine plt_no.mpr ?_
          dsimp only at hl ⊢
          omega
      rw [hm] at hb
      have hb := Option.some.inj hb
      subst hb
      exact ⟨pz, zs, rfl, s _ _ hpz⟩
end
end Oa
namespace Oa
open PySem PySem.Spec PyProof.Rows L2 Oat
section
variable {P : Program} {w : World} {K : PySem.W.Frag} {mg : Str → Option Value} {base : Heap}
/-- from turns that give to the items that were meant -/
theorem turns_filter {α : Type} {Rr : V → α → Prop} {p : α → Bool} {f : Nat → Bool} {G : List α} {ys : List V} (hf : ∀ i e, G[i]? = some e → f i = p e) (h : Paired (fun i v => ∃ e, G[i]? = some e ∧ Rr v e) ((List.range G.length).filter f) ys) : Paired Rr ys (G.filter p) := by
  have : ∀ (F G : List α) (ys : List V), (∀ i e, (F ++ G)[i]? = some e → f i = p e) → Paired (fun i v => ∃ e, (F ++ G)[i]? = some e ∧ Rr v e) ((List.range' F.length G.length).filter f) ys → Paired Rr ys (G.filter p) := by
    intro F G
    induction G generalizing F with
    | nil => intro ys _ h; cases h; exact .nil
    | cons g G ih =>
      intro ys hf h
      have hg : (F ++ g :: G)[F.length]? = some g := by
        rw [List.getElem?_append_right (Nat.le_refl _), Nat.sub_self]
        rfl
      have ef := hf F.length g hg
      have hF : F ++ g :: G = (F ++ [g]) ++ G := by rw [List.append_assoc]; rfl
      have hl : F.length + 1 = (F ++ [g]).length := by simp
      rw [List.length_cons, List.range'_succ] at h
      cases hp : p g with
      | true =>
        rw [hp] at ef
        rw [List.filter_cons_of_pos ef] at h
        rw [List.filter_cons_of_pos hp]
        cases h with
        | cons a b =>
          obtain ⟨e, he, r⟩ := a
          rw [hg] at he
          have he := Option.some.inj he
          subst he
          rw [hF] at hf b
          rw [hl] at b
          exact .cons r (ih (F ++ [g]) _ hf b)
      | false =>
        rw [hp] at ef
        rw [List.filter_cons_of_neg (by simp [ef])] at h
        rw [List.filter_cons_of_neg (by simp [hp])]
        rw [hF] at hf h
        rw [hl] at h
        exact ih (F ++ [g]) _ hf h
  exact this [] G ys hf (by rw [List.nil_append, List.length_nil, ← List.range_eq_range']; exact h)
/-! ### mile_ahead -/
def keyLe (t : List (Nat × Int)) (j i : Nat) : Bool := match t[i]? with
  | some e => decide (e.1 ≤ j)
  | none => false
def sp_mile_ahead (K : PySem.W.Frag) : Sp := fun vs H Q _ => ∃ b v carts room left t, vs = [.ref b, v, .int ((left : Nat) : Int)] ∧ SqT K H b [.int ((carts : Nat) : Int), .int ((room : Nat) : Int)] ∧ 2 ≤ room ∧ room ≤ 21 ∧ left ≤ 6 ∧ ITab H v t ∧ (t.map (·.1)).Nodup ∧ t.length ≤ 100 ∧
  ∀ v H', Same H H' → MTabAt K H' v (mile room left t) → Q v H'
end
end Oa
namespace Oa
open PySem PySem.Spec PyProof.Rows L2 Oat
section
variable {P : Program} {w : World} {K : PySem.W.Frag} {mg : Str → Option Value} {base : Heap}
abbrev IsI (v : V) (i : Int) : Prop := v = .int i
/-! ### the tables that dict comprehensions make -/
theorem take_snoc {α : Type} {l : List α} {i : Nat} {e : α} (h : l[i]? = some e) : l.take (i + 1) = l.take i ++ [e] := by
  obtain ⟨hi, he⟩ := List.getElem?_eq_some_iff.mp h
  rw [List.take_succ, h]
  rfl
theorem dc_col {t : MTab} {kvs : List (Key × V)} {σ : L2.St} {j : Nat} {vs : List Nat} {d C : Addr} {od : Obj} {H1 : Hp} {tv : TE} {Qd : Hp → Prop} (hC : H1 C = none) (hfz : H1 d = some (.frz od (.dK kvs))) (pd : PairD (MRow K H1) kvs t) (nd : (t.map (·.1)).Nodup) (h100 : t.length ≤ 100)
    (hw : ∀ x, wipe ((wipe σ vs).set j (some x)) vs = wipe σ vs) (hj : j < (wipe σ vs).length)
    (hv : ∀ n r H2, dget t n = some r → Same H1 H2 → ∀ Q : VK, Q (.int r.1) H2 → tv ((wipe σ vs).set j (some (.int ((n : Nat) : Int)))) H2 Q)
    (q : ∀ H2 cv, Same H1 H2 → H2 C = some (.dK cv) → PairD IsI cv (col t) → Qd H2) :
    ∃ W : Nat → Nat → Hp → Prop, (∃ m, W 0 m (upd H1 C (.dK []))) ∧ ∀ i m H, W i m H →
      ((Itk d od kvs).stop i H ∧ Qd H) ∨ ((Itk d od kvs).go i H ∧ ∃ Nx : Hp → Prop, (∀ H', Nx H' → ∃ m', m' < m ∧ W (i + 1) m' H') ∧ ∀ x H', (Itk d od kvs).yld i H x H' → gName j x (wipe σ vs) H' fun σ2 H2 => wipe σ2 vs = wipe σ vs ∧ tYes σ2 H2 fun b H3 =>
        if b = true then (tVar j) σ2 H3 fun y H4 => tv σ2 H4 fun z H5 => ∃ kvs k, y = kV k ∧ H5 C = some (.dK kvs) ∧ kvs.length < sizeLine ∧ Nx (upd H5 C (.dK (putK kvs k z))) else Nx H3) := by
  refine dc_it walk_keys (fun i H => Same H1 H ∧ ∃ cv, H C = some (.dK cv) ∧ PairD IsI cv (col (t.take i))) ⟨same_new hC, [], upd_same, .nil⟩ (fun i H _ p => p.1 _ _ hfz) (fun i x H2 H3 hi p y => ?_) (fun H p => ?_)
  · obtain ⟨s2, cv, hcv, pc⟩ := p
    obtain ⟨rfl, k, v, hk, rfl⟩ := y
    obtain ⟨n, r, he, rfl, _⟩ := pd_at pd hk
    have dg : dget t n = some r := dget_at nd he
    refine ⟨hw _, ?_⟩
    unfold tYes
    dsimp only
    rw [if_pos rfl]
    have hsl : ((wipe σ vs).set j (some (V.int ((n : Nat) : Int))))[j]? = some (some (V.int ((n : Nat) : Int))) := by rw [List.getElem?_set_self hj]
    refine ⟨_, hsl, ?_⟩
    refine hv n r H3 dg s2 _ ?_
    have lc : cv.length ≤ 100 := by
      rw [pd_len pc]
      unfold col
      rw [List.length_map, List.length_take]
      omega
    refine ⟨cv, Sum.inl ((n : Nat) : Int), rfl, hcv, Nat.lt_of_le_of_lt lc (small1000 (by omega)), same_mut s2 hC, _, upd_same, ?_⟩
    rw [take_snoc he]
    unfold col
    rw [List.map_append]
    have ndc : ((t.take i).map (·.1)).Nodup := by
      have := List.Nodup.sublist ((List.take_sublist i t).map (·.1)) nd
      exact this
    have ndc' : (((t.take i).map fun x => (x.1, x.2.1)).map (·.1)).Nodup := by rw [List.map_map]; exact ndc
    have hout : dget ((t.take i).map fun x => (x.1, x.2.1)) n = none := by
      refine dget_none fun x hx e => ?_
      obtain ⟨y, hy, rfl⟩ := List.mem_map.mp hx
      have nd2 : ((t.take (i + 1)).map (·.1)).Nodup := List.Nodup.sublist ((List.take_sublist (i + 1) t).map (·.1)) nd
      rw [take_snoc he, List.map_append] at nd2
      have := (List.nodup_append.mp nd2).2.2 y.1 (List.mem_map.mpr ⟨y, hy, rfl⟩) n (by simp)
      exact this e
    have := pd_put (R := IsI) (k := n) (v := .int r.1) (a := r.1) ndc' pc rfl
    rw [dput_out hout] at this
    exact this
  · obtain ⟨s2, cv, hcv, pc⟩ := p
    rw [pd_len pd, List.take_length] at pc
    exact q _ _ s2 hcv pc
theorem dc_start {u : Int} {left : Nat} {σ : L2.St} {j : Nat} {vs : List Nat} {C : Addr} {H1 : Hp} {tv : TE} {Qd : Hp → Prop} (hC : H1 C = none) (h6 : left ≤ 6)
    (hw : ∀ x, wipe ((wipe σ vs).set j (some x)) vs = wipe σ vs) (hj : j < (wipe σ vs).length)
    (hv : ∀ (n : Nat) H2, Same H1 H2 → ∀ Q : VK, Q (.int u) H2 → tv ((wipe σ vs).set j (some (.int ((n : Nat) : Int)))) H2 Q)
    (q : ∀ H2 cv, Same H1 H2 → H2 C = some (.dK cv) → PairD IsI cv (startT left u) → Qd H2) :
    ∃ W : Nat → Nat → Hp → Prop, (∃ m, W 0 m (upd H1 C (.dK []))) ∧ ∀ i m H, W i m H →
      ((Itr 0 (left + 1)).stop i H ∧ Qd H) ∨ ((Itr 0 (left + 1)).go i H ∧ ∃ Nx : Hp → Prop, (∀ H', Nx H' → ∃ m', m' < m ∧ W (i + 1) m' H') ∧ ∀ x H', (Itr 0 (left + 1)).yld i H x H' → gName j x (wipe σ vs) H' fun σ2 H2 => wipe σ2 vs = wipe σ vs ∧ tYes σ2 H2 fun b H3 =>
        if b = true then (tVar j) σ2 H3 fun y H4 => tv σ2 H4 fun z H5 => ∃ kvs k, y = kV k ∧ H5 C = some (.dK kvs) ∧ kvs.length < sizeLine ∧ Nx (upd H5 C (.dK (putK kvs k z))) else Nx H3) := by
  have nd : ∀ i, (((List.range i).map fun e => (e, u)).map (·.1)).Nodup := fun i => by
    rw [List.map_map]
    have : ((fun x : Nat × Int => x.1) ∘ fun e => (e, u)) = id := rfl
    rw [this, List.map_id]
    exact List.nodup_range
  refine dc_it walk_range (fun i H => Same H1 H ∧ ∃ cv, H C = some (.dK cv) ∧ PairD IsI cv ((List.range i).map fun e => (e, u))) ⟨same_new hC, [], upd_same, .nil⟩ (fun i H _ p => trivial) (fun i x H2 H3 hi p y => ?_) (fun H p => ?_)
  · obtain ⟨s2, cv, hcv, pc⟩ := p
    obtain ⟨rfl, rfl⟩ := y
    have ex : (0 : Int) + ((i : Nat) : Int) = ((i : Nat) : Int) := Int.zero_add _
    dsimp only
    rw [ex]
    refine ⟨hw _, ?_⟩
    unfold tYes
    dsimp only
    rw [if_pos rfl]
    have hsl : ((wipe σ vs).set j (some (V.int ((i : Nat) : Int))))[j]? = some (some (V.int ((i : Nat) : Int))) := by rw [List.getElem?_set_self hj]
    refine ⟨_, hsl, ?_⟩
    refine hv i H3 s2 _ ?_
    have lc : cv.length ≤ 100 := by
      rw [pd_len pc, List.length_map, List.length_range]
      omega
    refine ⟨cv, Sum.inl ((i : Nat) : Int), rfl, hcv, Nat.lt_of_le_of_lt lc (small1000 (by omega)), same_mut s2 hC, _, upd_same, ?_⟩
    rw [List.range_succ, List.map_append]
    have hout : dget ((List.range i).map fun e => (e, u)) i = none := by
      refine dget_none fun x hx e => ?_
      obtain ⟨y, hy, rfl⟩ := List.mem_map.mp hx
      have := List.mem_range.mp hy
      dsimp only at e
      omega
    have := pd_put (R := IsI) (k := i) (v := .int u) (a := u) (nd i) pc rfl
    rw [dput_out hout] at this
    exact this
  · obtain ⟨s2, cv, hcv, pc⟩ := p
    exact q _ _ s2 hcv pc
theorem mile_nd (room left : Nat) (t : List (Nat × Int)) : ((mile room left t).map (·.1)).Nodup := mileUp_nd _ _ _
theorem mile_len (room left : Nat) (t : List (Nat × Int)) : (mile room left t).length ≤ left + 1 := mileUp_len _ _ _
theorem MTabAt.put {H : Hp} {v : V} {t : MTab} {F : Addr} {l l' : List V} (h : MTabAt K H v t) (hF : H F = some (.lst l)) : MTabAt K (upd H F (.lst l')) v t := by
  obtain ⟨d, kvs, rfl, hd, pd⟩ := h
  exact ⟨d, kvs, rfl, by rw [upd_ne (ne_of hd hF (fun z => nomatch z))]; exact hd, pd_imp pd fun _ _ r => r.tx (tx_upd (by rw [hF]; trivial))⟩
/-! ### line_rows -/
def WorksAt (K : PySem.W.Frag) (H : Hp) (b : Addr) (carts room : Nat) : Prop := SqT K H b [.int ((carts : Nat) : Int), .int ((room : Nat) : Int)]
def sp_line_rows (K : PySem.W.Frag) : Sp := fun vs H Q _ => ∃ b carts room left miles units, vs = [.ref b, .int ((miles : Nat) : Int), .int ((units : Nat) : Int), .int ((left : Nat) : Int)] ∧ WorksAt K H b carts room ∧ 2 ≤ room ∧ room ≤ 21 ∧ left ≤ 6 ∧ miles ≤ 400 ∧
  ∀ F xs H', Same H H' → H' F = some (.lst xs) → Paired (MTabAt K H') xs ((List.range miles).map (roadM room left units)) → Q (.ref F) H'
end
end Oa
namespace Oat
theorem min_best {t : List (Nat × Int)} {x : Int} (h1 : x ∈ t.map (·.2)) (h2 : ∀ y ∈ t.map (·.2), x ≤ y) : (bestL t).map (·.1) = some x := by
  obtain ⟨e, he, rfl⟩ := List.mem_map.mp h1
  obtain ⟨m, hm, k1, k2⟩ := bestL_some (List.ne_nil_of_mem he)
  rw [hm]
  have a := plt_no.mp (k2 _ he)
  have b := h2 _ (List.mem_map.mpr ⟨_, k1, rfl⟩)
  dsimp only at a b
  show some m.1 = some e.2
  congr 1
  omega
theorem start_best {left : Nat} {units : Int} : bestL (startT left units) = some (units, 0) := by
  refine bestL_uniq (m := (units, 0)) (List.mem_map.mpr ⟨0, List.mem_range.mpr (by omega), rfl⟩) fun x hx => ?_
  obtain ⟨y, hy, rfl⟩ := List.mem_map.mp hx
  refine plt_no.mpr ?_
  show ¬ (units < units ∨ (units = units ∧ y < 0))
  omega
theorem line_zero {room left : Nat} {units : Int} : lineL room left units 0 = some units := by
  unfold lineL
  show (bestL (startT left units)).map _ = _
  rw [start_best]
  rfl
theorem col_get {t : MTab} {k : Nat} {v : Int} (nd : (t.map (·.1)).Nodup) (h : (k, v) ∈ col t) : ∃ r, dget t k = some r ∧ r.1 = v := by
  obtain ⟨x, hx, e⟩ := List.mem_map.mp h
  injection e with e1 e2
  subst e1 e2
  exact ⟨x.2, dget_of_mem nd hx, rfl⟩
theorem road_first {room left : Nat} {units : Int} {k : Nat} {m : Int × Nat} (h : bestL (roadT room left units (k + 1)) = some m) : ∃ r, dget (roadM room left units k) m.2 = some r := by
  obtain ⟨r, hr, _⟩ := col_get (mileUp_nd _ _ _) (bestL_mem h).1
  exact ⟨r, hr⟩
theorem road_next {room left : Nat} {units : Int} {k a : Nat} {r : Int × Int × Nat} (h : dget (roadM room left units (k + 1)) a = some r) : ∃ r', dget (roadM room left units k) r.2.2 = some r' := by
  have hm := mileUp_mem (mem_dget h)
  have hr : mileRow room (roadT room left units (k + 1)) a = some r := hm.2
  unfold mileRow at hr
  obtain ⟨m, hb, ho⟩ := Option.bind_eq_some_iff.mp hr
  obtain ⟨o, _, rfl⟩ := Option.map_eq_some_iff.mp ho
  obtain ⟨h1, _⟩ := List.mem_filter.mp (bestL_mem hb).1
  obtain ⟨r', hr', _⟩ := col_get (mileUp_nd _ _ _) h1
  exact ⟨r', hr'⟩
theorem times_succ {room left : Nat} {units : Int} {k a : Nat} {r : Int × Int × Nat} (h : dget (roadM room left units k) a = some r) : timesF room left units (k + 1) a = r.2.1 :: timesF room left units k r.2.2 := by
  show (match dget (roadM room left units k) a with | some r => _ | none => _) = _
  rw [h]
def enoughL (room left m feed : Nat) : Bool := match lineL room left 0 m with
  | none => false
  | some x => decide (x ≤ (feed : Int))
end Oat
namespace Oa
open PySem PySem.Spec PyProof.Rows L2 Oat
section
variable {P : Program} {w : World} {K : PySem.W.Frag} {mg : Str → Option Value} {base : Heap}
theorem paired_fn {α : Type} {f : α → V} : ∀ {ys : List V} {t : List α}, Paired (fun v e => v = f e) ys t → ys = t.map f
  | _, _, .nil => rfl
  | _, _, .cons a b => by rw [a, paired_fn b]; rfl
theorem lc_ints {α : Type} {R : V → α → Prop} {t : List (Nat × α)} {g : α → Int} {kvs : List (Key × V)} {σ : L2.St} {j : Nat} {vs : List Nat} {d D : Addr} {od : Obj} {H1 : Hp} {te : TE} {Qd : Hp → Prop} (hD : H1 D = none) (hfz : H1 d = some (.frz od (.dK kvs))) (pd : PairD R kvs t) (nd : (t.map (·.1)).Nodup) (h100 : t.length ≤ 100)
    (hw : ∀ x, wipe ((wipe σ vs).set j (some x)) vs = wipe σ vs)
    (hv : ∀ n a H2, dget t n = some a → Same H1 H2 → ∀ Q : VK, Q (.int (g a)) H2 → te ((wipe σ vs).set j (some (.int ((n : Nat) : Int)))) H2 Q)
    (q : ∀ H2, Same H1 H2 → H2 D = some (.lst (t.map fun e => .int (g e.2))) → Qd H2) :
    ∃ W : Nat → Nat → Hp → Prop, (∃ m, W 0 m (upd H1 D (.lst []))) ∧ ∀ i m H, W i m H →
      ((Itk d od kvs).stop i H ∧ Qd H) ∨ ((Itk d od kvs).go i H ∧ ∃ Nx : Hp → Prop, (∀ H', Nx H' → ∃ m', m' < m ∧ W (i + 1) m' H') ∧ ∀ x H', (Itk d od kvs).yld i H x H' → gName j x (wipe σ vs) H' fun σ2 H2 => wipe σ2 vs = wipe σ vs ∧ tYes σ2 H2 fun b H3 =>
        if b = true then te σ2 H3 fun y H4 => ∃ acc, H4 D = some (.lst acc) ∧ acc.length < sizeLine ∧ Nx (upd H4 D (.lst (acc ++ [y]))) else Nx H3) := by
  refine lc_rel walk_keys hD (by rw [pd_len pd]; omega) (fun H' s => s _ _ hfz) (fun _ => true) (fun i v H' => ∃ e, t[i]? = some e ∧ v = .int (g e.2))
    (fun i v H4 H5 l hl sb r => r) (fun i x H4 H5 l hi s4 hy y => ?_) (fun ys H4 s4 hy hp => ?_)
  · obtain ⟨rfl, k, v, hk, rfl⟩ := y
    obtain ⟨n, a, he, rfl, _⟩ := pd_at pd hk
    have dg : dget t n = some a := dget_at nd he
    exact ⟨Same.refl _, hw _, fun Q' q' => q' H5 (Same.refl _), fun _ H6 s6 Q' q' => hv n a H6 dg (s4.trans s6) _ (q' _ _ (Same.refl _) ⟨_, he, rfl⟩)⟩
  · rw [show (List.range kvs.length).filter (fun _ => true) = List.range kvs.length by simp, pd_len pd] at hp
    have := paired_fn (turns_items (Rr := fun v (e : Nat × α) => v = .int (g e.2)) hp)
    rw [this] at hy
    exact q H4 s4 hy
/-! ### line_least -/
def sp_line_least (K : PySem.W.Frag) : Sp := fun vs H Q _ => ∃ b carts room left miles units, vs = [.ref b, .int ((miles : Nat) : Int), .int ((units : Nat) : Int), .int ((left : Nat) : Int)] ∧ SqT K H b (worksV carts room) ∧ 1 ≤ carts ∧ carts ≤ 6 ∧ 2 ≤ room ∧ room ≤ 20 ∧ left ≤ carts ∧ miles ≤ 400 ∧ units ≤ 999 ∧
  ∀ H', Same H H' → Q (oiV (lineL room left units miles)) H'
end
end Oa
namespace Oa
open PySem PySem.Spec PyProof.Rows L2 Oat
section
variable {P : Program} {w : World} {K : PySem.W.Frag} {mg : Str → Option Value} {base : Heap}
theorem if1s {t : TT} {σ : L2.St} {H : Hp} {b : Bool} {tu tw tr : TS} {D : Ends} (S : Hp → Prop) (h : ∀ Q : Bool → Hp → Prop, (∀ H', S H' → Q b H') → t σ H Q) (h1 : b = true → ∀ H', S H' → tu { D with nx := tr D } σ H') (h2 : b = false → ∀ H', S H' → tw { D with nx := tr D } σ H') : tSeq (tIfS t tu tw) tr D σ H := h _ fun H' s => by
  cases b with
  | true => exact h1 rfl H' s
  | false => exact h2 rfl H' s
/-! ### line_reach -/
def sp_line_reach (K : PySem.W.Frag) : Sp := fun vs H Q _ => ∃ b carts room left feed, vs = [.ref b, .int ((feed : Nat) : Int), .int ((left : Nat) : Int)] ∧ SqT K H b (worksV carts room) ∧ 1 ≤ carts ∧ carts ≤ 6 ∧ 2 ≤ room ∧ room ≤ 20 ∧ left ≤ carts ∧ feed ≤ 1000000000000000000000000000000000000000000000000000000000000 ∧
  ∀ m H', m ≤ 400 → enoughL room left m feed = true → (m = 400 ∨ enoughL room left (m + 1) feed = false) → Same H H' → Q (.int ((m : Nat) : Int)) H'
theorem lc_pairs {α : Type} {R : V → α → Prop} {t : List (Nat × α)} {g : α → Int} {kvs : List (Key × V)} {σ : L2.St} {j : Nat} {vs : List Nat} {d D : Addr} {od : Obj} {H1 : Hp} {te : TE} {Qd : Hp → Prop} (hD : H1 D = none) (hfz : H1 d = some (.frz od (.dK kvs))) (pd : PairD R kvs t) (nd : (t.map (·.1)).Nodup) (h100 : t.length ≤ 100)
    (hw : ∀ x, wipe ((wipe σ vs).set j (some x)) vs = wipe σ vs)
    (hv : ∀ n a H2, dget t n = some a → Same H1 H2 → ∀ Q : VK, (∀ r H3, Same H2 H3 → H3 r = some (.tup [.int (g a), .int ((n : Nat) : Int)]) → Q (.ref r) H3) → te ((wipe σ vs).set j (some (.int ((n : Nat) : Int)))) H2 Q)
    (q : ∀ H2 ys, Same H1 H2 → H2 D = some (.lst ys) → Paired (fun v (e : Nat × α) => ∃ p, v = .ref p ∧ H2 p = some (.tup [.int (g e.2), .int ((e.1 : Nat) : Int)])) ys t → Qd H2) :
    ∃ W : Nat → Nat → Hp → Prop, (∃ m, W 0 m (upd H1 D (.lst []))) ∧ ∀ i m H, W i m H →
      ((Itk d od kvs).stop i H ∧ Qd H) ∨ ((Itk d od kvs).go i H ∧ ∃ Nx : Hp → Prop, (∀ H', Nx H' → ∃ m', m' < m ∧ W (i + 1) m' H') ∧ ∀ x H', (Itk d od kvs).yld i H x H' → gName j x (wipe σ vs) H' fun σ2 H2 => wipe σ2 vs = wipe σ vs ∧ tYes σ2 H2 fun b H3 =>
        if b = true then te σ2 H3 fun y H4 => ∃ acc, H4 D = some (.lst acc) ∧ acc.length < sizeLine ∧ Nx (upd H4 D (.lst (acc ++ [y]))) else Nx H3) := by
  refine lc_rel walk_keys hD (by rw [pd_len pd]; omega) (fun H' s => s _ _ hfz) (fun _ => true) (fun i v H' => ∃ e, t[i]? = some e ∧ ∃ p, v = .ref p ∧ H' p = some (.tup [.int (g e.2), .int ((e.1 : Nat) : Int)]))
    (fun i v H4 H5 l hl sb r => ?_) (fun i x H4 H5 l hi s4 hy y => ?_) (fun ys H4 s4 hy hp => ?_)
  · obtain ⟨e, he, p, rfl, hp⟩ := r
    exact ⟨e, he, p, rfl, sb _ _ (ne_of hp hl (fun z => nomatch z)) hp⟩
  · obtain ⟨rfl, k, v, hk, rfl⟩ := y
    obtain ⟨n, a, he, rfl, _⟩ := pd_at pd hk
    have dg : dget t n = some a := dget_at nd he
    exact ⟨Same.refl _, hw _, fun Q' q' => q' H5 (Same.refl _), fun _ H6 s6 Q' q' => hv n a H6 dg (s4.trans s6) _ fun r H7 s7 hr => q' _ _ s7 ⟨_, he, r, rfl, hr⟩⟩
  · rw [show (List.range kvs.length).filter (fun _ => true) = List.range kvs.length by simp, pd_len pd] at hp
    exact q H4 ys s4 hy (turns_items (Rr := fun v (e : Nat × α) => ∃ p, v = .ref p ∧ H4 p = some (.tup [.int (g e.2), .int ((e.1 : Nat) : Int)])) hp)
theorem min_use {α : Type} {t : List (Nat × α)} {g : α → Int} {H : Hp} {D : Addr} {ys : List V} {m : Int × Nat} {Q : VK} (hD : H D = some (.lst ys)) (hp : Paired (fun v (e : Nat × α) => ∃ p, v = .ref p ∧ H p = some (.tup [.int (g e.2), .int ((e.1 : Nat) : Int)])) ys t) (hm : bestL (t.map fun x => (x.1, g x.2)) = some m)
    (q : ∀ p, SqT K H p [.int m.1, .int ((m.2 : Nat) : Int)] → Q (.ref p) H) : rMinLP K [.ref D] H Q := by
  cases t with
  | nil => cases hm
  | cons e0 er =>
    have hpr : Paired (fun v e => Dp K H v (pD e)) ys ((g e0.2, e0.1) :: er.map fun y => (g y.2, y.1)) := by
      have := paired_map (S := fun v e => Dp K H v (pD e)) (f := fun y : Nat × α => (g y.2, y.1)) (fun x y r => by
        obtain ⟨p, rfl, hp⟩ := r
        exact .tup (sqt hp) (.cons (.int _) (.cons (.int _) .nil))) hp
      exact this
    refine ⟨D, ys, _, _, rfl, sql hD, hpr, fun v hv => ?_⟩
    have emb : (er.map fun y : Nat × α => (g y.2, y.1)).foldl pmin (g e0.2, e0.1) = m := by
      have hm : some ((er.map fun x : Nat × α => (x.1, g x.2)).foldl (fun m y => pmin m (y.2, y.1)) (g e0.2, e0.1)) = some m := hm
      rw [List.foldl_map] at hm ⊢
      exact Option.some.inj hm
    rw [emb] at hv
    unfold pD at hv
    cases hv with
    | @tup pv xs _ hpv hall =>
      have exs : xs = [.int m.1, .int (m.2 : Int)] := by
        cases hall with
        | cons a1 b1 =>
          cases a1
          cases b1 with
          | cons a2 b2 =>
            cases a2
            cases b2
            rfl
      subst exs
      exact q pv hpv
/-! ### line_times -/
def sp_line_times (K : PySem.W.Frag) : Sp := fun vs H Q E => ∃ b carts room left miles units, vs = [.ref b, .int ((miles : Nat) : Int), .int ((units : Nat) : Int), .int ((left : Nat) : Int)] ∧ SqT K H b (worksV carts room) ∧ 1 ≤ carts ∧ carts ≤ 6 ∧ 2 ≤ room ∧ room ≤ 20 ∧ left ≤ carts ∧ miles ≤ 400 ∧ units ≤ 999 ∧
  (bestL (roadT room left units miles) = none → ∀ H', Same H H' → E (.ref (He.ga K "NoneSuch")) none H') ∧
  (∀ m, bestL (roadT room left units miles) = some m → ∀ l H', Same H H' → H l = none → H' l = some (.lst ((timesF room left units miles m.2).map V.int)) → Q (.ref l) H')
end
end Oa
namespace Oat
theorem outF_max {room e : Nat} {need : Int} (hr : 3 ≤ room) : outF room need e = some (max (max (e : Int) 1) (0 - ((e : Int) - need) / ((room : Int) - 2))) := by
  unfold outF
  have hp : (0 : Int) < (room : Int) - 2 := by omega
  have hM : ((max e 1 : Nat) : Int) = max (e : Int) 1 := by omega
  rw [hM]
  generalize max (e : Int) 1 = M
  by_cases h : need ≤ M * ((room : Int) - 2) + e
  · rw [if_pos h]
    have : -M ≤ ((e : Int) - need) / ((room : Int) - 2) := by
      rw [Int.le_ediv_iff_mul_le hp, Int.neg_mul]
      omega
    congr 1
    omega
  · rw [if_neg h, if_neg (by omega)]
    have : ((e : Int) - need) / ((room : Int) - 2) < -M := by
      rw [Int.ediv_lt_iff_lt_mul hp, Int.neg_mul]
      omega
    congr 1
    omega
end Oat
namespace Oa
open PySem PySem.Spec PyProof.Rows L2 Oat
section
variable {P : Program} {w : World} {K : PySem.W.Frag} {mg : Str → Option Value} {base : Heap}
/-! ### _law_whole -/
def sp_law_whole (K : PySem.W.Frag) : Sp := fun vs H Q _ => ∃ i : Int, vs = [.int i] ∧ Q (.bl true) H
/-! ### _law_column -/
def sp_law_column (K : PySem.W.Frag) : Sp := fun vs H Q _ => ∃ v t, vs = [v, .int 0] ∧ MTabAt K H v t ∧ (t.map (·.1)).Nodup ∧ t.length ≤ 100 ∧ ∀ v' H', Same H H' → ITab H' v' (col t) → Q v' H'
/-! ### _law_mile -/
def sp_law_mile (K : PySem.W.Frag) : Sp := fun vs H Q _ => ∃ b v carts room left t, vs = [.ref b, v, .int ((left : Nat) : Int)] ∧ SqT K H b (worksV carts room) ∧ 2 ≤ room ∧ room ≤ 21 ∧ left ≤ 6 ∧ ITab H v t ∧ (t.map (·.1)).Nodup ∧ t.length ≤ 100 ∧
  ∀ v H', Same H H' → MTabAt K H' v (mile room left t) → Q v H'
end
end Oa
namespace SrtO
open PySem PyProof.Rows Srt
section
variable {prog : Program} {w : World} {A : Around} {E : Value → Shared → Prop} {s : Shared}
/-- what is collected of a tuple stands in a new list -/
theorem collect_of_tuple {tp : Addr} {vals : List Value} {Qc : List Value → Shared → Prop} (htp : ∃ o, s.heap.get? tp = some o ∧ o.cls = .type "tuple" ∧ ∃ n, o.data = .seq vals.toArray n) (hsmall : vals.length ≤ sizeLine)
    (hq : Qc vals { s with heap := (s.heap.push (seqObj "list" #[] 0)).update s.heap.objs.size (Obj.mapSeq (· ++ vals.toArray)) }) : wpAny (model prog w) A (collect (.ref tp)) Qc E s := by
  obtain ⟨ob, hob, hcl, nn, hda⟩ := htp
  unfold collect
  refine wpAny_bind (wpAny_runValue (codeAny_builtin entry_proto_collect' ?_))
  show wpAny _ _ (do again (.builtin "list.__iadd__" ⟨[← newList [], .ref tp], []⟩)) _ _ s
  refine wpAny_bind (wpAny_newList (wpAny_pure ⟨Code.quiet_builtin _ (by decide +kernel), codeAny_builtin entry_list_iadd' ?_⟩))
  show wpAny _ _ (Builtin.List.listExtendWith (.ref s.heap.objs.size) (.ref tp) (.ref s.heap.objs.size)) _ _ { s with heap := s.heap.push (seqObj "list" #[] 0) }
  unfold Builtin.List.listExtendWith
  have hob2 : (s.heap.push (seqObj "list" #[] 0)).get? tp = some ob := Heap.get?_push_of_some _ hob
  refine wpAny_bind (wpAny_typeOf (T := "tuple") ⟨ob, hob2, hcl⟩ ?_)
  have hty : (Value.type "tuple" == Value.type "tuple") = true := by rfl
  rw [if_pos (by rw [hty]; simp)]
  refine wpAny_bind (listItems_at hob2 hda ?_)
  refine wpAny_bind (listItems_at (xs := #[]) (n := 0) (Heap.get?_push_size _ rfl) rfl ?_)
  rw [if_neg (by simp)]
  refine wpAny_bind (listUpdate_at (xs := #[]) (n := 0) (Heap.get?_push_size _ rfl) rfl ?_ (Nat.zero_le _) (by show (#[] ++ vals.toArray).size ≤ sizeLine + 1; simp only [Array.size_append, List.size_toArray, List.length_nil]; omega))
  refine wpAny_pure ?_
  show wpAny (model prog w) A (do
      let o ← load s.heap.objs.size
      match o.data with
      | .seq xs _ => pure xs.toList
      | _ => unsupported "internal:collect") Qc E { s with heap := (s.heap.push (seqObj "list" #[] 0)).update s.heap.objs.size (Obj.mapSeq (· ++ vals.toArray)) }
  refine wpAny_bind (wpAny_load (get?_update_seq (Heap.get?_push_size _ rfl) _) ?_)
  show wpAny _ _ (pure ((#[] : Array Value) ++ vals.toArray).toList) Qc E _
  rw [show ((#[] : Array Value) ++ vals.toArray).toList = vals by simp]
  exact wpAny_pure hq
theorem sorted_of_tuple {tp : Addr} {vals : List Value} {lt : Value → Value → Bool} {Qc : Value → Shared → Prop} (Ow : Swo lt) (htp : ∃ o, s.heap.get? tp = some o ∧ o.cls = .type "tuple" ∧ ∃ n, o.data = .seq vals.toArray n) (hsmall : vals.length ≤ sizeLine)
    (hso : 2 ≤ vals.length → ∀ (h₁ : Heap) (a : Addr), h₁.get? a = some (seqObj "list" vals.toArray 0) → (∀ b o, s.heap.get? b = some o → b ≠ a ∧ h₁.get? b = some o) → SortableO prog w A.in1.in1 { s with heap := h₁ } a vals lt)
    (hq : ∀ out : List Value, Srtd lt out → Stb lt out vals → Qc (.ref (s.heap.objs.size + 1)) { s with heap := sortedAll s.heap vals out.toArray }) : wpAny (model prog w) A (call (.builtin "sorted") [.ref tp]) Qc E s := by
  refine Calls.call_function_entry kind_sorted plain_sorted entry_sorted (args_sorted1 _) ?_
  unfold Builtin.«sorted»
  refine wpAny_bind (m := checkCount "sorted" 1 1 _) (wpAny_pure ?_)
  refine wpAny_bind (collect_of_tuple htp hsmall ?_)
  refine wpAny_bind (wpAny_newList ?_ hsmall)
  have esz : ((s.heap.push (seqObj "list" #[] 0)).update s.heap.objs.size (Obj.mapSeq (· ++ vals.toArray))).objs.size = s.heap.objs.size + 1 := by rw [Heap.size_update, size_push']
  have hnew : (((s.heap.push (seqObj "list" #[] 0)).update s.heap.objs.size (Obj.mapSeq (· ++ vals.toArray))).push (seqObj "list" vals.toArray 0)).get? (s.heap.objs.size + 1) = some (seqObj "list" vals.toArray 0) := by rw [← esz]; exact Heap.get?_push_size _ rfl
  have stays : ∀ b o, s.heap.get? b = some o → b ≠ s.heap.objs.size + 1 ∧ (((s.heap.push (seqObj "list" #[] 0)).update s.heap.objs.size (Obj.mapSeq (· ++ vals.toArray))).push (seqObj "list" vals.toArray 0)).get? b = some o := fun b o e => by
    have lb : b < s.heap.objs.size := Heap.lt_size e
    refine ⟨Nat.ne_of_lt (Nat.lt_succ_of_lt lb), Heap.get?_push_of_some _ (by rw [Heap.get?_update_ne _ _ _ _ (Nat.ne_of_lt lb)]; exact Heap.get?_push_of_some _ e)⟩
  show wpAny _ _ _ _ _ { s with heap := ((s.heap.push (seqObj "list" #[] 0)).update s.heap.objs.size (Obj.mapSeq (· ++ vals.toArray))).push (seqObj "list" vals.toArray 0) }
  rw [esz]
  refine wpAny_bind (wpAny_holding (wpAny_call_entry slot_list_sort ⟨_, hnew, rfl⟩ entry_list_sort (list_sort_ord Ow hnew hsmall (fun g2 => hso g2 _ _ hnew stays) fun out g1 g2 => ⟨_, rfl, ?_⟩) (args_list_sort _)))
  exact wpAny_pure ⟨_, rfl, hq out g1 g2⟩
end
end SrtO
namespace Oa
open PySem PySem.Spec PyProof.Rows L2
section
variable {X : Cx}
/-- x.name(e, ..), the written part told -/
theorem pe_bmK (K : PySem.W.Frag) {ob ea : Expr} {eb : List Expr} {tob : TE} {targ : TA} {mname : Str} {ap cp : Pos} {Ty mid : String} {rr : V → List V → Hp → VK → Prop} (pat : PlainAttrs Ty) (slt : Slot Ty mname mid) (hmd : typeOf (.builtin mid) = pure (.type "method_descriptor")) (hmt : MtR X mid rr) (hob : PE X ob tob) (har : PA X (ea :: eb) targ)
    (hab : attributeBase ob mname X.env (eval ob X.env) = eval ob X.env := by rfl)
    (hfw : ((backTo cp (starEach (ea :: eb) X.env)).all (fun x => !x.1) && (backToKw cp (keywordEach [] X.env)).all (fun x => x.1.isSome) && decide ((ea :: eb).length + ([] : List Keyword).length + (if ([] : List Keyword).isEmpty then 0 else 1) < 30)) = true := by rfl)
    (hli : (ap.endLine == cp.line) = true := by rfl) (hst : starEach (ea :: eb) X.env = (false, eval ea X.env) :: starEach eb X.env := by rfl) (hpn : (backTo cp (starEach eb X.env)).any (·.1) = false := by rfl) (hK : X.K = K := by rfl) :
    PE X (.Call (.Attribute ob mname ap) (ea :: eb) [] cp) (tBM K Ty rr tob targ) := by
  subst hK
  exact pe_bm pat slt hmd hmt hob har hab hfw hli hst hpn
/-- tuple(l): the new tuple is known to the letter, and stays so -/
theorem tupOfZ (K : PySem.W.Frag) (hK : X.K = K := by rfl) : CallR X (.type "tuple") (fun xs H Q => ∃ p ys, xs = [.ref p] ∧ SqL K H p ys ∧ ∀ l od, od.dict = none → H l = none → Q (.ref l) (upd H l (.frz od (.tup ys)))) := by
  subst hK
  intro pins s σ H xs us Q I r hh
  obtain ⟨p, ys, rfl, hsq, q⟩ := hh
  obtain ⟨u, rfl, rx⟩ := vals1 r
  cases rx
  obtain ⟨its, rv, pl, hz⟩ := I.list hsq
  have hln := rv.length
  refine call_tuple_list pl.isList (fun hp kp => ?_) (by simp only [List.size_toArray] <;> omega)
  have J1 : Inv X pins σ H { s with heap := hp } := I.kept (t' := s.toks) kp
  have J2 : Inv X pins σ (upd H hp.objs.size (.frz { cls := .type "tuple", data := .seq its.toArray } (.tup ys))) { s with heap := hp.push { cls := .type "tuple", data := .seq its.toArray } } := J1.laid (t' := s.toks) (fun b o e => Heap.get?_push_of_some _ e) (Nat.le_refl _) ⟨Heap.get?_push_size _ rfl, hz, its, rv, IsTup.new _ _⟩
  exact ⟨.ref hp.objs.size, _, J2, rfl, q _ _ rfl (J1.hok.fresh (Nat.le_refl _))⟩
def PureT (H : Hp) (p : Addr) (xs : List V) : Prop := ∃ od : Obj, H p = some (.frz od (.tup xs)) ∧ od.dict = none
theorem PureT.sq {K : PySem.W.Frag} {H : Hp} {p : Addr} {xs : List V} (h : PureT H p xs) : SqT K H p xs := by
  obtain ⟨od, h, _⟩ := h
  exact .inl (.inr ⟨od, h⟩)
theorem PureT.same {H H' : Hp} {p : Addr} {xs : List V} (h : PureT H p xs) (s : Same H H') : PureT H' p xs := by
  obtain ⟨od, h, d⟩ := h
  exact ⟨od, s _ _ h, d⟩
/-- t.name(e, ..), t a tuple that is known to the letter -/
def tBMT (r : V → List V → Hp → VK → Prop) (to : TE) (t : TA) : TE := fun σ H Q => to σ H fun x H1 => (∃ p xs, x = .ref p ∧ PureT H1 p xs) ∧ t σ H1 fun vs H2 => r x vs H2 Q
theorem pe_bmT {ob ea : Expr} {eb : List Expr} {tob : TE} {targ : TA} {mname : Str} {ap cp : Pos} {mid : String} {rr : V → List V → Hp → VK → Prop} (slt : Slot "tuple" mname mid) (hmd : typeOf (.builtin mid) = pure (.type "method_descriptor")) (hmt : MtR X mid rr) (hob : PE X ob tob) (har : PA X (ea :: eb) targ)
    (hab : attributeBase ob mname X.env (eval ob X.env) = eval ob X.env := by rfl)
    (hfw : ((backTo cp (starEach (ea :: eb) X.env)).all (fun x => !x.1) && (backToKw cp (keywordEach [] X.env)).all (fun x => x.1.isSome) && decide ((ea :: eb).length + ([] : List Keyword).length + (if ([] : List Keyword).isEmpty then 0 else 1) < 30)) = true := by rfl)
    (hli : (ap.endLine == cp.line) = true := by rfl) (hst : starEach (ea :: eb) X.env = (false, eval ea X.env) :: starEach eb X.env := by rfl) (hpn : (backTo cp (starEach eb X.env)).any (·.1) = false := by rfl) :
    PE X (.Call (.Attribute ob mname ap) (ea :: eb) [] cp) (tBMT rr tob targ) := by
  refine ⟨fun pins s σ H Q I hw => ?_⟩
  refine wpAny_Call_method_late hab hfw hli rfl (thn (hob.run pins s σ H _ I hw) fun v s1 ⟨x, H1, I1, r1, ty, q1⟩ => ?_)
  obtain ⟨p, xs, rfl, od, hp, hd⟩ := ty
  cases r1
  obtain ⟨hget, hok⟩ := I1.hok p _ hp
  obtain ⟨_, its, rv, hit⟩ := hok
  have hty : s1.TypeIs (.ref p) "tuple" := by
    obtain ⟨o2, g1, g2, _⟩ := hit
    exact ⟨o2, g1, g2⟩
  refine ⟨"tuple", mid, PySem.F.plainAttrs_tuple, slt, hmd, hty, fun a e => ?_, ?_⟩
  · cases e
    exact ⟨od, hget, hd⟩
  · have hA := har.run cp pins s1 σ H1 _ I1 q1
    rw [hst] at hA ⊢
    refine Calls.callWith_builtin (by show (false || (backTo cp (starEach eb X.env)).any (·.1)) = false; rw [hpn] <;> rfl) (Calls.evalArgs_plain ?_)
    exact thn hA fun us s2 ⟨vs, H2, I2, r2, q2⟩ => hmt pins s2 σ H2 (.ref p) vs (.ref p) us Q I2 rfl r2 q2
/-- sorted(t), t a tuple of ints -/
def rSortedTu (K : PySem.W.Frag) : List V → Hp → VK → Prop := fun vs H Q => ∃ (a : Addr) (ns : List Int), vs = [V.ref a] ∧ SqT K H a (ns.map V.int) ∧ ∀ (ms : List Int) (p : Addr), ms.Perm ns → ms.Pairwise (· ≤ ·) → H p = none → Q (.ref p) (upd H p (.lst (ms.map V.int)))
theorem srtTu (K : PySem.W.Frag) (hK : X.K = K := by rfl) : CallR X (.builtin "sorted") (rSortedTu K) := by
  subst hK
  intro pins s σ H vs us Q I r hh
  obtain ⟨a, ns, rfl, hsq, q⟩ := hh
  obtain ⟨its, rv, pl, hz⟩ := I.tuple hsq
  rw [Vals.ref1 r]
  have hii := rv.ints
  have hz2 : its.length ≤ sizeLine := by rw [← rv.length]; exact hz
  refine SrtO.sorted_of_tuple SrtO.swo_int pl hz2 (fun g2 h₁ a' _ _ => SrtO.ints_sortable hii g2) fun out g1 g2 => ?_
  obtain ⟨o1, o2, o3⟩ := SrtO.ints_out hii g1 g2
  obtain ⟨ep, hat⟩ := PyProof.Rows.sortedAll_at s.heap its out.toArray
  have hln : ((out.map SrtO.iv).map V.int).length ≤ sizeLine := by
    rw [List.length_map, o2.length_eq]
    rw [List.length_map] at hz
    exact hz
  exact ⟨.ref _, upd H (s.heap.objs.size + 1) (.lst ((out.map SrtO.iv).map V.int)), I.laid (t' := s.toks) (fun _ _ => PyProof.Rows.sortedAll_old) (Nat.le_succ _) ⟨hln, out, ep, vals_of_ints o1, hat⟩, rfl, q _ _ o2 o3 (I.hok.fresh (Nat.le_succ _))⟩
theorem srtI (K : PySem.W.Frag) (hK : X.K = K := by rfl) : CallR X (.builtin "sorted") (rSortedI K) := by subst hK; exact cr_sortedI
theorem flat_ints (ys : List Int) : (ys.map V.int).all flatV = true := by
  rw [List.all_map]
  exact List.all_eq_true.mpr fun _ _ => rfl
/-- t.index(i), t a tuple of ints: the first place -/
def rTupIndex (K : PySem.W.Frag) : V → List V → Hp → VK → Prop := fun x xs H Q => ∃ (p : Addr) (ys : List Int) (z : Int) (j : Nat), x = .ref p ∧ xs = [.int z] ∧ SqT K H p (ys.map V.int) ∧ ys[j]? = some z ∧ (∀ m, m < j → ys[m]? ≠ some z) ∧ Q (.int (j : Nat)) H
theorem mt_tupIndexI (K : PySem.W.Frag) (hK : X.K = K := by rfl) : MtR X "tuple.index" (rTupIndex K) := by
  subst hK
  intro pins s σ H x xs v us Q I rx rs hh
  obtain ⟨p, ys, z, j, rfl, rfl, hsq, hyj, hfirst, q⟩ := hh
  cases rx
  obtain ⟨u, rfl, tk, rfl⟩ := vals1 rs
  obtain ⟨its, rv, pl, hz⟩ := I.tuple hsq
  obtain ⟨⟨cls, dd, dt, sl⟩, hob, hcl, nn, hda⟩ := pl
  simp only at hcl hda
  subst hcl
  subst hda
  have hsize : its.toArray.size = ys.length := by rw [List.size_toArray, ← rv.length, List.length_map]
  have hjs : j < its.toArray.size := by rw [hsize]; exact (List.getElem?_eq_some_iff.mp hyj).1
  have item : ∀ (m : Nat) (hm : m < its.toArray.size), ∃ y t', ys[m]? = some y ∧ its.toArray[m] = Value.int y t' := fun m hm => by
    have hm2 : m < ys.length := by rw [← hsize]; exact hm
    obtain ⟨wv, hwv, t', hwe⟩ := rv.get (i := m) (x := .int ys[m]) (by simp [hm2])
    refine ⟨ys[m], t', List.getElem?_eq_getElem hm2, ?_⟩
    have e := (List.getElem?_eq_some_iff.mp hwv).2
    rw [← hwe, ← e]
    simp
  refine call_meets PySem.F.slot_tuple_index ⟨_, hob, rfl⟩ PySem.F.entry_tuple_index (PySem.F.args_tuple_index_2 _ _) (TI.tuple_indexAt p its.toArray nn dd sl (.int z tk) (eqU (.int z)) j hjs ?_ ?_)
    ⟨hob, fun wv hwv => mem_eqAt (x := .int z) ⟨tk, rfl⟩ rfl rv (flat_ints ys) wv (by simpa using hwv), ⟨.int (j : Nat), H, I.tok _, ⟨_, rfl⟩, q⟩⟩
  · obtain ⟨y, t', g1, g2⟩ := item j hjs
    rw [hyj] at g1
    cases g1
    rw [g2]
    show (z == z) = true
    exact beq_self_eq_true z
  · intro m hm hmj
    obtain ⟨y, t', g1, g2⟩ := item m hm
    rw [g2]
    show (y == z) = false
    refine beq_eq_false_iff_ne.mpr fun e => hfirst m hmj ?_
    rw [g1, e]
end
end Oa
namespace L2
open PySem PySem.Spec PyProof.Rows
theorem tuple_mul1 (l : Addr) (items : Array Value) (n : Nat) (dd : Option Addr) (sl : Array (Option Value)) (u : Tok) :
    Meets (Builtin.«tuple.__mul__» ⟨[.ref l, .int 1 u], []⟩) (fun _ R s => s.heap.get? l = some { cls := .type "tuple", dict := dd, data := .seq items n, slots := sl } ∧ R (.ok (.ret (Value.ref l))) s) :=
  .of_wp fun prog w A R s h => by
    obtain ⟨hp, g, d, tk, os⟩ := s
    obtain ⟨hl, h⟩ := h
    have f1 := AutoSeq1.idx_int
    wp_walk using wpAny_loadPart' hl
    have c1 : (items.isEmpty || (1 : Int) == 1) = true := by simp
    repeat (first
      | (refine wpAny_ite_true (decide_eq_true c1) ?_; wp_walk using wpAny_loadPart' hl)
      | (refine wpAny_ite_false (decide_eq_false (by decide)) ?_; wp_walk using wpAny_loadPart' hl))
    exact ⟨_, rfl, h⟩
theorem tuple_mul0 (l : Addr) (items : Array Value) (n : Nat) (dd : Option Addr) (sl : Array (Option Value)) (u : Tok) (hne : items.isEmpty = false) :
    Meets (Builtin.«tuple.__mul__» ⟨[.ref l, .int 0 u], []⟩) (fun _ R s => s.heap.get? l = some { cls := .type "tuple", dict := dd, data := .seq items n, slots := sl } ∧
      R (.ok (.ret (Value.ref s.heap.objs.size))) { s with heap := s.heap.push { cls := Value.type "tuple", data := Data.seq #[] }, toks := s.toks }) :=
  .of_wp fun prog w A R s h => by
    obtain ⟨hp, g, d, tk, os⟩ := s
    obtain ⟨hl, h⟩ := h
    have f1 := AutoSeq1.idx_int
    wp_walk using wpAny_loadPart' hl
    have c1 : (items.isEmpty || (0 : Int) == 1) = false := by rw [hne]; decide
    have c2 : (decide ((0 : Int) ≤ 0) || items.isEmpty) = true := by simp
    repeat (first
      | (refine wpAny_ite_false (decide_eq_false (by rw [c1]; exact Bool.false_ne_true)) ?_; wp_walk using wpAny_loadPart' hl)
      | (refine wpAny_ite_true (decide_eq_true c2) ?_; wp_walk using wpAny_loadPart' hl)
      | (refine wpAny_ite_false (decide_eq_false (by decide)) ?_; wp_walk using wpAny_loadPart' hl))
    exact ⟨_, rfl, h⟩
end L2
namespace Oa
open PySem PySem.Spec PyProof.Rows L2
section
variable {X : Cx}
/-- t * k, t a tuple with something in it, k any small count -/
def rRepA (K : PySem.W.Frag) : R2 := fun x y H Q => ∃ (l : Addr) (k : Nat) (xs : List V), x = .ref l ∧ y = .int ((k : Nat) : Int) ∧ SqT K H l xs ∧ xs ≠ [] ∧ k ≤ 1000 ∧ xs.length ≤ 1000 ∧ ∀ p H', Same H H' → SqT K H' p (List.replicate k xs).flatten → Q (.ref p) H'
theorem repA (K : PySem.W.Frag) (hK : X.K = K := by rfl) : OpR X (binaryOp .Mult) (rRepA K) := by
  subst hK
  intro pins s σ H x y v u Q I rx ry hh
  obtain ⟨l, k, xs, rfl, rfl, hsq, hne, hk, hz, q⟩ := hh
  by_cases h2 : 2 ≤ k
  · refine op_repT pins s σ H _ _ v u Q I rx ry ⟨l, ((k : Nat) : Int), xs, rfl, rfl, hsq, hne, by omega, by omega, hz, fun p np => ?_⟩
    exact q p _ (same_new np) (sqt upd_same)
  · cases rx
    obtain ⟨t, rfl⟩ := ry
    obtain ⟨its, rv, ⟨⟨cls, dd, data, sl⟩, hob, hcl, nn, hda⟩, hs⟩ := I.tuple hsq
    simp only at hcl hda
    subst hcl hda
    have hle : its.length = xs.length := rv.length.symm
    have hi : its.toArray.isEmpty = false := by
      cases its with
      | nil => exact absurd (List.eq_nil_of_length_eq_zero hle.symm) hne
      | cons a b => rfl
    rcases (show k = 0 ∨ k = 1 by omega) with e | e
    · subst e
      refine wpAny_binaryOp_repeat_ref (T := "tuple") (U := "int") (by decide) ⟨_, hob, rfl⟩ (fun s' => typeIs_int s' 0 t) noFill_tuple_mul F.fills_int_mul F.slot_int_rmul repeat_tuple F.slot_int_index.lookup
        (call_meets F.slot_int_rmul (typeIs_int s 0 t) F.entry_int_rmul (F.args_int_rmul_2 _ _) (int_rmul_tuple 0 t l its.toArray nn dd sl)
          ⟨hob, rfl, ⟨_, hob, rfl⟩, call_meets F.slot_tuple_mul ⟨_, hob, rfl⟩ F.entry_tuple_mul (F.args_tuple_mul_2 _ _) (tuple_mul0 l its.toArray nn dd sl t hi) ⟨hob, ?_⟩⟩)
      refine ⟨.ref s.heap.objs.size, _, I.laid (t' := s.toks) (o := .tup []) (fun b ob e => Heap.get?_push_of_some _ e) (Nat.le_refl _) ?_, rfl, q _ _ (same_new (I.hok.fresh (Nat.le_refl _))) (sqt upd_same)⟩
      exact ⟨Nat.zero_le _, [], .nil, IsTup.new _ _⟩
    · subst e
      refine wpAny_binaryOp_repeat_ref (T := "tuple") (U := "int") (by decide) ⟨_, hob, rfl⟩ (fun s' => typeIs_int s' 1 t) noFill_tuple_mul F.fills_int_mul F.slot_int_rmul repeat_tuple F.slot_int_index.lookup
        (call_meets F.slot_int_rmul (typeIs_int s 1 t) F.entry_int_rmul (F.args_int_rmul_2 _ _) (int_rmul_tuple 1 t l its.toArray nn dd sl)
          ⟨hob, rfl, ⟨_, hob, rfl⟩, call_meets F.slot_tuple_mul ⟨_, hob, rfl⟩ F.entry_tuple_mul (F.args_tuple_mul_2 _ _) (tuple_mul1 l its.toArray nn dd sl t) ⟨hob, ?_⟩⟩)
      refine ⟨.ref l, H, I, rfl, q l H (Same.refl _) ?_⟩
      rw [show (List.replicate 1 xs).flatten = xs by simp]
      exact hsq
end
end Oa
namespace Oa
open PySem PySem.Spec PyProof.Rows L2 Oat
section
variable {P : Program} {w : World} {K : PySem.W.Frag} {mg : Str → Option Value} {base : Heap}
/-! ### joined -/
theorem joinV {L M : List Nat} {p : Nat} : landV (joinL L M p) = landV L ++ (M.map (shiftP L.length p)).map fun (n : Nat) => V.int (n : Int) := by
  unfold landV joinL
  rw [List.map_append]
  rfl
def sp_joined (K : PySem.W.Frag) : Sp := fun vs H Q _ => ∃ a b L M p, vs = [.ref a, .ref b, .int ((p : Nat) : Int)] ∧ SqT K H a (landV L) ∧ SqT K H b (landV M) ∧ WfL L ∧ WfL M ∧ L.length + M.length < 30 ∧ p ≤ L.length ∧ ∀ r H', Same H H' → SqT K H' r (landV (joinL L M p)) → Q (.ref r) H'
/-! ### _law_both -/
def sp_law_both : Sp := fun vs H Q _ => ∃ x y : Option Int, vs = [oiV x, oiV y] ∧ Q (oiV (bothO x y)) H
end
end Oa
namespace Oa
open PySem PySem.Spec PyProof.Rows L2 Oat
section
variable {P : Program} {w : World} {K : PySem.W.Frag} {mg : Str → Option Value} {base : Heap}
abbrev natsV (xs : List Nat) : List V := xs.map fun (k : Nat) => V.int (k : Int)
theorem flat_nats (xs : List Nat) : (natsV xs).all flatV = true := by
  rw [List.all_eq_true]
  intro x hx
  obtain ⟨k, _, rfl⟩ := List.mem_map.mp hx
  rfl
theorem inV_nat (p : Nat) : ∀ xs : List Nat, inV (.int ((p : Nat) : Int)) (natsV xs) = decide (p ∈ xs)
  | [] => rfl
  | x :: xs => by
    have ih := inV_nat p xs
    unfold inV at ih ⊢
    rw [natsV, List.map_cons, List.any_cons, ih, Bool.eq_iff_iff, Bool.or_eq_true, decide_eq_true_eq, decide_eq_true_eq, List.mem_cons]
    have : eqV (V.int ((x : Nat) : Int)) (V.int ((p : Nat) : Int)) = true ↔ p = x := by
      show (((x : Nat) : Int) == ((p : Nat) : Int)) = true ↔ _
      rw [beq_iff_eq]
      omega
    rw [this]
/-! ### part_of -/
def sp_part_of (K : PySem.W.Frag) : Sp := fun vs H Q _ => ∃ a L p, vs = [.ref a, .int ((p : Nat) : Int)] ∧ SqT K H a (landV L) ∧ L.length < 30 ∧ WfL L ∧ p ≤ L.length ∧ ∀ l H', Same H H' → H l = none → H' l = some (.lst (natsV (partL L p))) → Q (.ref l) H'
theorem c_part_of (T : Txt K mg) : Cal P w K mg base CX0 4 "part_of" ["land", "place"] (sp_part_of K) := by
  refine cal0 T.d_part_of sc_part_of (fun _ _ _ _ _ _ us hl => match us, hl with | [_, _], _ => rfl) (fun vs H Q E h => ?_) (fun f cdv A outer s H vs Q E hr h => ?_)
  · obtain ⟨a, L, p, rfl, _⟩ := h
    rfl
  · obtain ⟨a, L, p, rfl, hA, hn, wf, hp, q⟩ := h
    refine ⟨_, (pss_cons (ps_expr (pcall (c_look_land T) (hr.mono (by omega)) (pa_cons (pv 0) pa_nil)))
      (pss_cons (ps_expr (pcall (c_look_place T) (hr.mono (by omega)) (pa_cons (pv 0) (pa_cons (pv 1) pa_nil))))
      (pss_cons (ps_set (i := 2) sc_part_of.nd rfl (Or.inl rfl) (pe_lst (pa_cons (pv 1) pa_nil)))
      (pss_cons (ps_for PassesOwn.never rfl (pi_range2 rfl T.b_range (pa_cons (pe_op op_add (pv 1) pe_int) (pa_cons (pe_callB (lenS K) rfl T.b_len PySem.boot_len (pa_cons (pv 0) pa_nil)) pa_nil))) (pg_name (i := 3) sc_part_of.nd rfl (Or.inl rfl)) (pss_one (ps_if (pt_cmpR (inS K) (pe_ix (ixT K) (pv 0) (pv 3) (fun _ _ => rfl)) (pv 2) rfl) (pss_one (ps_expr (pe_bm PySem.F.plainAttrs_list PySem.F.slot_list_append PySem.F.type_list_append mt_append (pv 2) (pa_cons (pv 3) pa_nil)))) pss_nil)))
      (pss_one (ps_ret (pv 2))))))), ?_⟩
    refine ⟨_, rfl, a, L, rfl, hA, hn, wf, fun H1 s1 => ?_⟩
    refine ⟨_, rfl, _, rfl, a, L, p, rfl, same_t s1 hA, hp, ?_⟩
    refine ⟨_, rfl, by show 1 ≤ sizeLine; decide, fun fl nf => ?_⟩
    have s2 := s1.trans (same_new (o := .lst [.int ((p : Nat) : Int)]) nf)
    have hf : (upd H1 fl (.lst [.int ((p : Nat) : Int)])) fl = some (.lst (natsV ((List.range (p + 1 + 0)).filter fun k => decide (p ∈ upL L k)))) := by
      rw [upd_same, Nat.add_zero, part_start wf hp]
      rfl
    have nHf : H fl = none := s1.free nf
    dsimp only [gName]
    generalize upd H1 fl (.lst [.int ((p : Nat) : Int)]) = H2 at s2 hf ⊢
    show tSeq (tFor _ _ _) _ _ [some (.ref a), some (.int ((p : Nat) : Int)), some (.ref fl), none] H2
    refine ⟨_, rfl, _, _, rfl, rfl, _, rfl, a, _, rfl, .inr (same_t s2 hA), _, _, rfl, ⟨by omega, by omega, by omega, by rw [landV_len]; omega⟩, ?_⟩
    have en : (((landV L).length : Int) - (((p : Nat) : Int) + 1)).toNat = L.length - p := by rw [landV_len]; omega
    rw [en]
    refine for_it walk_range (fun i σ H3 => ∃ y3, σ = [some (.ref a), some (.int ((p : Nat) : Int)), some (.ref fl), y3] ∧ Same H H3 ∧ H3 fl = some (.lst (natsV ((List.range (p + 1 + i)).filter fun k => decide (p ∈ upL L k)))))
      ⟨none, rfl, s2, hf⟩ (fun _ _ _ _ _ => trivial) (fun i x σ H3 H4 hi pp y => ?_) (fun σ H3 pp => ?_)
    · obtain ⟨y3, rfl, s3, hf3⟩ := pp
      obtain ⟨rfl, rfl⟩ := y
      have ek : ((p : Nat) : Int) + 1 + ((i : Nat) : Int) = ((p + 1 + i : Nat) : Int) := by omega
      dsimp only
      rw [ek]
      have hk : p + 1 + i ≤ L.length := by omega
      generalize hke : p + 1 + i = k at hk hf3
      have hpk : p < k := by omega
      have hla : (landV L)[k]? = some (.int ((par L k : Nat) : Int)) := by
        obtain ⟨j, rfl⟩ : ∃ j, k = j + 1 := ⟨k - 1, by omega⟩
        exact landV_at (by omega)
      refine ⟨_, rfl, _, rfl, a, _, _, _, rfl, rfl, same_t s3 hA, atI_nat hla, _, rfl, fl, _, rfl, .inl (sql hf3), rfl, flat_nats _, _, rfl, ?_⟩
      show (if (if false = true then _ else inV (.int ((par L k : Nat) : Int)) (natsV ((List.range k).filter fun k => decide (p ∈ upL L k)))) = true then _ else _)
      rw [if_neg Bool.false_ne_true, inV_nat]
      have hin := part_in wf hpk hk
      have estep : (List.range (p + 1 + (i + 1))).filter (fun k => decide (p ∈ upL L k)) = (List.range k).filter (fun k => decide (p ∈ upL L k)) ++ (if p ∈ upL L k then [k] else []) := by
        rw [show p + 1 + (i + 1) = k + 1 by omega, List.range_succ, List.filter_append]
        congr 1
        by_cases h : p ∈ upL L k
        · rw [if_pos h]
          simp only [List.filter_cons, decide_eq_true h, if_true, List.filter_nil]
        · rw [if_neg h]
          simp only [List.filter_cons, decide_eq_false h, Bool.false_eq_true, if_false, List.filter_nil]
      refine ite2 (fun c => ?_) (fun c => ?_)
      · have c := hin.mpr (of_decide_eq_true c)
        rw [if_pos c] at estep
        have hlen : (natsV ((List.range k).filter fun k => decide (p ∈ upL L k))).length ≤ 1000 := by
          rw [natsV, List.length_map]
          have := List.length_filter_le (fun k => decide (p ∈ upL L k)) (List.range k)
          rw [List.length_range] at this
          omega
        refine ⟨_, rfl, .inl ⟨rfl, _, sql hf3⟩, _, rfl, fl, _, _, rfl, rfl, hf3, Nat.lt_of_le_of_lt hlen (small1000 (Nat.le_refl _)), ?_⟩
        refine ⟨_, rfl, same_mut s3 nHf, ?_⟩
        rw [upd_same, estep]
        unfold natsV
        rw [List.map_append]
        rfl
      · have c : ¬ p ∈ upL L k := fun h => c (decide_eq_true (hin.mp h))
        rw [if_neg c, List.append_nil] at estep
        refine ⟨_, rfl, s3, ?_⟩
        rw [estep]
        exact hf3
    · obtain ⟨y3, rfl, s3, hf3⟩ := pp
      refine ⟨_, rfl, q fl H3 s3 nHf ?_⟩
      rw [show p + 1 + (L.length - p) = L.length + 1 by omega] at hf3
      exact hf3
end
end Oa
namespace Oat
open PySem PyProof.Rows L2
/-! ### papers -/
def okAt (c : Case) (p e : Nat) (s num : Option Int) : Bool := match s with
  | none => true
  | some x => match tkv c p e x with
    | none => true
    | some d => match num with
      | none => false
      | some v => decide (v ≤ d)
def okHere (c : Case) (T : Nat → List (Nat × Int)) (p e : Nat) : Bool := okAt c p e (bv ((kids c.L p).map T) e) (dget (T p) e)
def Holds (c : Case) (T : Nat → List (Nat × Int)) : Prop := ∀ p, p ≤ c.L.length → ∀ e, e ≤ c.left → okHere c T p e = true
theorem takes_get {c : Case} (wf : WfL c.L) {p e : Nat} (hp : p ≤ c.L.length) (he : e ≤ c.left) : dget (takes (tab c p)) e = (bv ((kids c.L p).map fun k => takes (tab c k)) e).bind (tkv c p e) := by
  cases h : (bv ((kids c.L p).map fun k => takes (tab c k)) e).bind (tkv c p e) with
  | some v => exact dget_of_mem (takes_nd (tab_nd wf hp)) ((mem_tk wf hp).mpr ⟨he, h⟩)
  | none =>
    cases hd : dget (takes (tab c p)) e with
    | none => rfl
    | some v =>
      have := ((mem_tk wf hp).mp (mem_dget hd)).2
      rw [h] at this
      cases this
theorem told_holds {c : Case} (wf : WfL c.L) : Holds c fun k => takes (tab c k) := fun p hp e he => by
  unfold okHere okAt
  cases hb : bv ((kids c.L p).map fun k => takes (tab c k)) e with
  | none => rfl
  | some x =>
    show (match tkv c p e x with | none => true | some d => _) = true
    cases ht : tkv c p e x with
    | none => rfl
    | some d =>
      have hg := takes_get wf hp he
      rw [hb] at hg
      have hg : dget (takes (tab c p)) e = tkv c p e x := hg
      rw [ht] at hg
      show (match dget (takes (tab c p)) e with | none => false | some v => decide (v ≤ d)) = true
      rw [hg]
      exact decide_eq_true (Int.le_refl _)
theorem tkv_mono {c : Case} (h2 : 2 ≤ c.room) {p e : Nat} {x y : Int} (hxy : x ≤ y) {v : Int} (h : tkv c p e y = some v) (hn : 0 ≤ v) : ∃ u, tkv c p e x = some u ∧ u ≤ v := by
  unfold tkv takenOf at h ⊢
  by_cases h0 : p = 0
  · rw [if_pos h0] at h ⊢
    have h : y + wantN c.W p = v := Option.some.inj h
    exact ⟨_, rfl, by show x + wantN c.W p ≤ v; omega⟩
  · rw [if_neg h0] at h ⊢
    by_cases hc : e = 0 ∧ wanted c.L c.W p = false
    · rw [if_pos hc] at h ⊢
      have h : (0 : Int) = v := Option.some.inj h
      exact ⟨_, rfl, by show (0 : Int) ≤ v; omega⟩
    · rw [if_neg hc] at h ⊢
      obtain ⟨r, hr, rfl⟩ := Option.map_eq_some_iff.mp h
      obtain ⟨o, ho, rfl⟩ := Option.map_eq_some_iff.mp hr
      obtain ⟨g1, g2, _⟩ := outF_spec h2 ho
      have g2 : y + wantN c.W p ≤ o * ((c.room : Int) - 2) + e := g2
      obtain ⟨o', ho', hle⟩ := outF_ex (room := c.room) (e := e) (need := x + wantN c.W p) (o2 := o) h2 g1 (by omega)
      refine ⟨x + wantN c.W p + 2 * o' - e, by show ((outF c.room (x + wantN c.W p) e).map _).map _ = _; rw [ho']; rfl, ?_⟩
      show x + wantN c.W p + 2 * o' - e ≤ y + wantN c.W p + 2 * o - e
      omega
theorem sm_tle : ∀ {ts ts' : List (List (Nat × Int))} {s : Int} {n : Nat}, Paired TLe ts ts' → Sm ts' s n → ∃ s2, Sm ts s2 n ∧ s2 ≤ s
  | _, _, _, _, .nil, .nil => ⟨0, .nil, Int.le_refl _⟩
  | _, _, _, _, .cons a b, .cons hk hr => by
    obtain ⟨v, hv, hle⟩ := a _ _ hk
    obtain ⟨s2, hs, hle2⟩ := sm_tle b hr
    exact ⟨_, .cons hv hs, by omega⟩
theorem holds_le {c : Case} (wf : WfL c.L) (h2 : 2 ≤ c.room) {T : Nat → List (Nat × Int)} (hT : Holds c T) : ∀ (n p : Nat), c.L.length < n + p → p ≤ c.L.length → TLe (T p) (takes (tab c p))
  | 0, p, h, hp => by omega
  | n + 1, p, h, hp => by
    intro e v hv
    have hn := tab_nn wf h2 (c.L.length + 1) p (by omega) hp e v hv
    obtain ⟨he, hb⟩ := (mem_tk wf hp).mp hv
    obtain ⟨x, hx, htx⟩ := Option.bind_eq_some_iff.mp hb
    have hpair : Paired TLe ((kids c.L p).map T) ((kids c.L p).map fun k => takes (tab c k)) := paired_maps _ fun k hk => by
      have := kids_gt wf hk
      exact holds_le wf h2 hT n k (by omega) this.2
    obtain ⟨m, hm, hs⟩ := bv_some hx
    obtain ⟨s2, hs2, hle⟩ := sm_tle hpair hs
    obtain ⟨y, hy, hyx⟩ := bv_le hs2 hm
    obtain ⟨u, hu, huv⟩ := tkv_mono h2 (show y ≤ x by omega) htx hn
    have hok := hT p hp e he
    unfold okHere okAt at hok
    rw [hy] at hok
    have hok : (match tkv c p e y with | none => true | some d => (match dget (T p) e with | none => false | some v => decide (v ≤ d))) = true := hok
    rw [hu] at hok
    have hok : (match dget (T p) e with | none => false | some v => decide (v ≤ u)) = true := hok
    cases hd : dget (T p) e with
    | none => rw [hd] at hok; cases hok
    | some z =>
      rw [hd] at hok
      have hok := of_decide_eq_true hok
      exact ⟨z, mem_dget hd, by omega⟩
theorem holds_least {c : Case} (wf : WfL c.L) (h2 : 2 ≤ c.room) {T : Nat → List (Nat × Int)} (hT : Holds c T) {y : Int} (hy : least c = some y) : ∃ m, bestL (T 0) = some m ∧ m.1 ≤ y := by
  obtain ⟨⟨e, r, hr, rfl⟩, _⟩ := least_iff.mp hy
  obtain ⟨v, hv, hle⟩ := holds_le wf h2 hT (c.L.length + 1) 0 (by omega) (Nat.zero_le _) e r.tk (mem_takes.mpr ⟨r, hr, rfl⟩)
  obtain ⟨m, hm, h1, h3⟩ := bestL_some (List.ne_nil_of_mem hv)
  have := plt_no.mp (h3 _ hv)
  dsimp only at this
  exact ⟨m, hm, by omega⟩
/-! ### numbers are not too great -/
theorem out_small {room e : Nat} {need o : Int} (h2 : 2 ≤ room) (hn : 0 ≤ need) (h : outF room need e = some o) : o ≤ need + e + 1 := by
  obtain ⟨_, _, h3⟩ := outF_spec h2 h
  by_cases hr : room = 2
  · subst hr
    unfold outF at h
    split at h
    · have := Option.some.inj h
      omega
    · rw [if_pos rfl] at h; cases h
  · refine h3 (need + e + 1) (by omega) ?_
    have hp : (1 : Int) ≤ (room : Int) - 2 := by omega
    have : (need + e + 1) * 1 ≤ (need + e + 1) * ((room : Int) - 2) := Int.mul_le_mul_of_nonneg_left hp (by omega)
    omega
theorem sm_small {B : Int} (hB : 0 ≤ B) : ∀ {ts : List (List (Nat × Int))} {s : Int} {n : Nat}, Sm ts s n → (∀ tb ∈ ts, ∀ k v, (k, v) ∈ tb → v ≤ B) → s ≤ (ts.length : Int) * B
  | _, _, _, .nil, _ => by simp
  | _, _, _, .cons (t := t) (ts := ts) hk hr, h => by
    have h1 := h t List.mem_cons_self _ _ hk
    have h2 := sm_small hB hr fun tb htb => h tb (List.mem_cons_of_mem _ htb)
    have e : (((t :: ts).length : Nat) : Int) * B = B + (ts.length : Int) * B := by
      rw [List.length_cons, Int.natCast_succ, Int.add_mul, Int.one_mul, Int.add_comm]
    omega
def capN : Nat → Int
  | 0 => 1
  | n + 1 => 100 * capN n
theorem capN_pos : ∀ n, 1 ≤ capN n
  | 0 => Int.le_refl _
  | n + 1 => by have := capN_pos n; show 1 ≤ 100 * capN n; omega
theorem capN_mono : ∀ {m n : Nat}, m ≤ n → capN m ≤ capN n
  | 0, n, _ => capN_pos n
  | m + 1, 0, h => by omega
  | m + 1, n + 1, h => by
    have := capN_mono (show m ≤ n by omega)
    show 100 * capN m ≤ 100 * capN n
    omega
theorem tab_small {c : Case} (wf : WfL c.L) (h2 : 2 ≤ c.room) (hl : c.L.length ≤ 4) (hf : c.left ≤ 3) (hw : ∀ p, wantN c.W p ≤ 9) : ∀ (n p : Nat), c.L.length < n + p → p ≤ c.L.length → ∀ k v, (k, v) ∈ takes (tab c p) → v ≤ capN (c.L.length + 1 - p)
  | 0, p, h, hp, _, _, _ => by omega
  | n + 1, p, h, hp, e, v, hv => by
    obtain ⟨he, hb⟩ := (mem_tk wf hp).mp hv
    obtain ⟨x, hx, htx⟩ := Option.bind_eq_some_iff.mp hb
    obtain ⟨m, hm, hs⟩ := bv_some hx
    obtain ⟨q, hq⟩ : ∃ q, c.L.length + 1 - p = q + 1 := ⟨c.L.length - p, by omega⟩
    have hcap := capN_pos q
    have hkv : ∀ tb ∈ (kids c.L p).map (fun k => takes (tab c k)), ∀ k v, (k, v) ∈ tb → 0 ≤ v ∧ v ≤ capN q := fun tb htb k v hkv => by
      obtain ⟨j, hj, rfl⟩ := List.mem_map.mp htb
      have hg := kids_gt wf hj
      have h1 := tab_small wf h2 hl hf hw n j (by omega) hg.2 k v hkv
      have h3 := capN_mono (show c.L.length + 1 - j ≤ q by omega)
      exact ⟨tab_nn wf h2 (c.L.length + 1) j (by omega) hg.2 k v hkv, by omega⟩
    have hx1 := sm_small (show 0 ≤ capN q by omega) hs fun tb htb k v h => (hkv tb htb k v h).2
    have hx0 := sm_nn hs fun tb htb k v h => (hkv tb htb k v h).1
    have hkl := kids_len c.L p
    rw [List.length_map] at hx1
    have hmul : (((kids c.L p).length : Nat) : Int) * capN q ≤ 4 * capN q := Int.mul_le_mul_of_nonneg_right (by omega) (by omega)
    have hwp := hw p
    have hw0 := wantN_nn c.W p
    rw [hq]
    show v ≤ 100 * capN q
    unfold tkv takenOf at htx
    split at htx
    · have : x + wantN c.W p = v := Option.some.inj htx
      omega
    · split at htx
      · have : (0 : Int) = v := Option.some.inj htx
        omega
      · obtain ⟨r, hr, rfl⟩ := Option.map_eq_some_iff.mp htx
        obtain ⟨o, ho, rfl⟩ := Option.map_eq_some_iff.mp hr
        have := out_small h2 (show 0 ≤ x + wantN c.W p by omega) ho
        show x + wantN c.W p + 2 * o - e ≤ 100 * capN q
        have this : o ≤ x + wantN c.W p + e + 1 := this
        omega
end Oat
namespace Oat
theorem rmin_fst (a b : Int × List Nat) : (rmin a b).1 = if b.1 < a.1 then b.1 else a.1 := by
  unfold rmin
  split
  · rename_i h
    have := rlt_le h
    split <;> omega
  · rename_i h
    have := rlt_no h
    split <;> omega
theorem bv_min {ts : List (List (Nat × Int))} {left : Nat} {m : Int} (h1 : m ∈ (bestF ts left).map fun x => x.2.1) (h2 : ∀ y ∈ (bestF ts left).map (fun x => x.2.1), m ≤ y) : bv ts left = some m := by
  unfold bv best
  cases hF : bestF ts left with
  | nil => rw [hF] at h1; cases h1
  | cons e r =>
    show some (r.foldl (fun m x => rmin m x.2) e.2).1 = some m
    rw [hF] at h1 h2
    obtain ⟨g1, g2⟩ := rmin_foldl_le r e.2
    have hm : (r.foldl (fun m x => rmin m x.2) e.2).1 ≤ m := by
      obtain ⟨x, hx, rfl⟩ := List.mem_map.mp h1
      rcases List.mem_cons.mp hx with h | h
      · subst h; exact g1
      · exact g2 x h
    have hb : best ts left = some (r.foldl (fun m x => rmin m x.2) e.2) := by unfold best; rw [hF]
    obtain ⟨k, hk⟩ := best_mem hb
    rw [hF] at hk
    have := h2 _ (List.mem_map.mpr ⟨_, hk, rfl⟩)
    congr 1
    dsimp only at this
    omega
theorem bv_nil {ts : List (List (Nat × Int))} {left : Nat} (h : bestF ts left = []) : bv ts left = none := by
  unfold bv best
  rw [h]
  rfl
end Oat
namespace Oa
open PySem PySem.Spec PyProof.Rows L2 Oat
section
variable {P : Program} {w : World} {K : PySem.W.Frag} {mg : Str → Option Value} {base : Heap}
/-! ### least_sum -/
abbrev HdI (v : V) (e : Int × List Nat) : Prop := v = .int e.1
def sp_least_sum (K : PySem.W.Frag) : Sp := fun vs H Q _ => ∃ t xs ts left, vs = [.ref t, .int ((left : Nat) : Int)] ∧ SqL K H t xs ∧ Paired (ITab H) xs ts ∧ (∀ tb ∈ ts, (tb.map (·.1)).Nodup) ∧ ts.length ≤ 30 ∧ left ≤ 6 ∧ ∀ H', Same H H' → Q (oiV (bv ts left)) H'
theorem c_least_sum (T : Txt K mg) : Cal P w K mg base CX0 1 "least_sum" ["tables", "left"] (sp_least_sum K) := by
  refine cal0 T.d_least_sum sc_least_sum (fun _ _ _ _ _ _ us hl => match us, hl with | [_, _], _ => rfl) (fun vs H Q E h => ?_) (fun f cdv A outer s H vs Q E hr h => ?_)
  · obtain ⟨t, xs, ts, left, rfl, _⟩ := h
    rfl
  · obtain ⟨t, xs, ts, left, rfl, hS, hT, nds, h30, h6, q⟩ := h
    refine ⟨_, (pss_cons (ps_set (i := 2) sc_least_sum.nd rfl (Or.inr rfl) (pe_disp (pps_cons pe_int pe_int pps_nil) rfl rfl (fun z => by cases z) (by decide)))
      (pss_cons (ps_for PassesOwn.never rfl (piL K (pv 0)) (pg_name (i := 3) sc_least_sum.nd rfl (Or.inl rfl)) (pss_cons (ps_set (i := 4) sc_least_sum.nd rfl (Or.inl rfl) pe_dnewK)
      (pss_cons (ps_lock (ps_for PassesOwn.never rfl (pi_keys (pv 2)) (pg_name (i := 5) sc_least_sum.nd rfl (Or.inl rfl)) (pss_one (ps_lock (ps_for PassesOwn.never rfl (pi_keys (pv 3)) (pg_name (i := 6) sc_least_sum.nd rfl (Or.inl rfl)) (pss_one (ps_if (pt_cmpR op_le (pe_op op_add (pv 5) (pv 6)) (pv 1) (nomark _)) (pss_cons (ps_set (i := 7) sc_least_sum.nd rfl (Or.inl rfl) (pe_op op_add (pe_dget (hu_of hr) (pv 2) (pv 5) (fun _ _ => rfl)) (pe_dget (hu_of hr) (pv 3) (pv 6) (fun _ _ => rfl))))
      (pss_one (ps_dput (hu_of hr) (pv 4) (pe_op op_add (pv 5) (pv 6)) (pe_callB (call_min2 rfl) rfl T.b_min (by decide +kernel) (pa_cons (pe_dget2 (hu_of hr) (pv 4) (pe_op op_add (pv 5) (pv 6)) (pv 7) (by constructor <;> rfl)) (pa_cons (pv 7) pa_nil))) rfl))) pss_nil)))))))
      (pss_one (ps_set (i := 2) sc_least_sum.nd rfl (Or.inr rfl) (pv 4))))))
      (pss_one (ps_ret (pe_ifExp (pt_cmpR (op_neE hr.units0) (pv 2) pe_dnewK (nomark _)) (pe_callB (minI K rfl) rfl T.b_min (by decide +kernel) (pa_cons (pe_lock (pe_lc (own := [("some", 5)]) (g := gName 5) rfl sc_least_sum.nd (pi_keys (pv 2)) (blkOk_by (own := [("some", 5)]) (N := ["tables", "left", "sums", "table", "fresh", "some", "key", "total"]) (sc := (defScope s_least_sum)) (by decide +kernel)) (fun _ _ _ _ _ => pg_name (i := 5) sc_least_sum.nd rfl (Or.inl rfl)) (fun _ _ _ _ _ => pts_nil) (fun _ _ _ _ _ => (pe_dget (hu_of hr) (pv 2) (pv 5) (fun _ _ => rfl))))) pa_nil)) pe_non))))), ?_⟩
    -- sums = {0: 0}
    refine fun fa nfa => ⟨upd_same, [(.inl 0, .int 0)], rfl, (by show 1 ≤ 15; decide), ?_⟩
    have s0 : Same H (upd (upd H fa (.dK [])) fa (.dK (mergeK [] [(.inl 0, .int 0)]))) := same_mut (same_new nfa) nfa
    have f0 : (upd (upd H fa (.dK [])) fa (.dK (mergeK [] [(.inl 0, .int 0)]))) fa = some (.dK [(.inl 0, .int 0)]) := upd_same
    generalize (upd (upd H fa (.dK [])) fa (.dK (mergeK [] [(.inl 0, .int 0)]))) = H1 at s0 f0 ⊢
    -- for table in tables
    refine ⟨_, rfl, t, rfl, ⟨_, same_l s0 hS⟩, ?_⟩
    refine for_it (walk_list (xs := xs)) (fun i σ H2 => ∃ fa kvs y3 y4 y5 y6 y7, σ = [some (.ref t), some (.int ((left : Nat) : Int)), some (.ref fa), y3, y4, y5, y6, y7] ∧ Same H H2 ∧ H fa = none ∧ H2 fa = some (.dK kvs) ∧ PairD HdI kvs (bestF (ts.take i) left))
      ⟨fa, _, none, none, none, none, none, rfl, s0, nfa, f0, .cons ⟨rfl, rfl⟩ .nil⟩ (fun i σ H2 _ p => ?_) (fun i x σ H2 H3 hi p y => ?_) (fun σ H2 p => ?_)
    · obtain ⟨_, _, _, _, _, _, _, _, s1, _⟩ := p
      exact same_l s1 hS
    · obtain ⟨fa, kvs, y3, y4, y5, y6, y7, rfl, s1, nfa, f1, pd⟩ := p
      obtain ⟨rfl, hx⟩ := y
      obtain ⟨tb, htb, tk⟩ := paired_at hT hx
      obtain ⟨d, ktb, rfl, hd, pt⟩ := tk
      have ndt := nds tb (List.mem_of_getElem? htb)
      have gF := good_bestF (ts.take i) left
      generalize hFe : bestF (ts.take i) left = F at pd gF
      -- fresh = {}
      refine fun fr nfr => ?_
      have nfd : fa ≠ d := fun e => by rw [e, hd] at nfa; cases nfa
      have nrd : fr ≠ d := fun e => by rw [e, s1 _ _ hd] at nfr; cases nfr
      have nfr2 : fa ≠ fr := ne_of_none f1 nfr
      have nfrH : H fr = none := s1.free nfr
      -- for some in sums
      refine ⟨fa, .dK kvs, by rw [upd_ne nfr2]; exact f1, trivial, fun od => ?_⟩
      refine ⟨_, rfl, fa, od, rfl, .inl ⟨kvs, upd_same, ?_⟩⟩
      refine for_it walk_keys (fun j σ H4 => ∃ kfr y5 y6 y7, σ = [some (.ref t), some (.int ((left : Nat) : Int)), some (.ref fa), some (.ref d), some (.ref fr), y5, y6, y7] ∧ Same H H4 ∧ H4 fa = some (.frz od (.dK kvs)) ∧ H4 fr = some (.dK kfr) ∧
          PairD HdI kfr ((F.take j).foldl (fun acc e => tb.foldl (addRow left e.1 e.2) acc) []))
        ⟨[], y5, y6, y7, rfl, same_mut (same_mut s1 nfrH) nfa, upd_same, by rw [upd_ne nfr2.symm, upd_same], .nil⟩
        (fun j σ H4 _ p => ?_) (fun j x σ H4 H5 hj p y => ?_) (fun σ H4 p => ?_)
      · obtain ⟨_, _, _, _, _, _, z, _⟩ := p
        exact z
      · obtain ⟨kfr, y5, y6, y7, rfl, s2, f2, r2, pdR⟩ := p
        obtain ⟨rfl, k, v, hk, rfl⟩ := y
        obtain ⟨used, u, hu, rfl, ru⟩ := pd_at pd hk
        have lu : u.2.length = (ts.take i).length := (gF.2 _ (List.mem_of_getElem? hu)).2
        have gR : Good left ((ts.take i).length + 1) ((F.take j).foldl (fun acc e => tb.foldl (addRow left e.1 e.2) acc) []) :=
          good_mid _ _ (fun e he => (gF.2 e (List.mem_of_mem_take he)).2) (good_nil _ _)
        have du : dget F used = some u := dget_at gF.1 hu
        rw [foldl_take hu]
        generalize ((F.take j).foldl (fun acc e => tb.foldl (addRow left e.1 e.2) acc) []) = acc0 at pdR gR
        -- for key in table
        refine ⟨d, .dK ktb, s2 _ _ hd, trivial, fun od2 => ?_⟩
        refine ⟨_, rfl, d, od2, rfl, .inl ⟨ktb, upd_same, ?_⟩⟩
        refine for_it walk_keys (fun m σ H6 => ∃ kfr y6 y7, σ = [some (.ref t), some (.int ((left : Nat) : Int)), some (.ref fa), some (.ref d), some (.ref fr), some (.int ((used : Nat) : Int)), y6, y7] ∧ SameBut d H H6 ∧ H6 d = some (.frz od2 (.dK ktb)) ∧ H6 fa = some (.frz od (.dK kvs)) ∧
            H6 fr = some (.dK kfr) ∧ PairD HdI kfr ((tb.take m).foldl (addRow left used u) acc0))
          ⟨kfr, y6, y7, rfl, fun b o hb e => by rw [upd_ne hb]; exact s2 b o e, upd_same, by rw [upd_ne nfd]; exact f2, by rw [upd_ne nrd]; exact r2, pdR⟩
          (fun m σ H6 _ p => ?_) (fun m x σ H6 H7 hm p y => ?_) (fun σ H6 p => ?_)
        · obtain ⟨_, _, _, _, _, z, _⟩ := p
          exact z
        · obtain ⟨kfr, y6, y7, rfl, s3, f3, f4, r3, pR⟩ := p
          obtain ⟨rfl, k, v, hk2, rfl⟩ := y
          obtain ⟨some', tv, hs, rfl, rv⟩ := pd_at pt hk2
          have ds : dget tb some' = some tv := dget_at ndt hs
          have gR2 : Good left ((ts.take i).length + 1) ((tb.take m).foldl (addRow left used u) acc0) := good_inner lu _ _ gR
          rw [foldl_take hs]
          generalize ((tb.take m).foldl (addRow left used u) acc0) = acc at pR gR2
          have lacc : acc.length ≤ left + 1 := gR2.len
          refine ⟨_, rfl, _, rfl, _, _, rfl, rfl, _, rfl, _, _, rfl, rfl, _, rfl, ite2 (fun c => ?_) (fun c => ?_)⟩
          · have c' : ((used : Nat) : Int) + ((some' : Nat) : Int) ≤ ((left : Nat) : Int) := of_decide_eq_true c
            have c2 : used + some' ≤ left := by omega
            have ek : ((used : Nat) : Int) + ((some' : Nat) : Int) = ((used + some' : Nat) : Int) := by omega
            obtain ⟨v1, hv1, rfl⟩ := (pd_get used pd).2 u du
            obtain ⟨v2, hv2, rfl⟩ := (pd_get some' pt).2 tv ds
            -- total
            refine ⟨_, rfl, _, rfl, fa, _, rfl, .inl ⟨kvs, .inl _, .inr ⟨od, f4⟩, rfl, hv1.symm⟩, _, rfl, _, rfl, d, _, rfl, .inl ⟨ktb, .inl _, .inr ⟨od2, f3⟩, rfl, hv2.symm⟩, _, _, rfl, rfl, ?_⟩
            dsimp only [gName]
            have gg := pd_get (used + some') pR
            have put : ∀ (z : Int) (e : Int × List Nat), z = e.1 → e = rmin ((dget acc (used + some')).getD (u.1 + tv, u.2 ++ [some'])) (u.1 + tv, u.2 ++ [some']) → PairD HdI (putK kfr (.inl ((used + some' : Nat) : Int)) (.int z)) (addRow left used u acc (some', tv)) := fun z e hz he => by
              have ea : addRow left used u acc (some', tv) = dput acc (used + some') e := by
                unfold addRow
                rw [if_pos c2, he]
              rw [ea]
              exact pd_put gR2.1 pR (by show V.int z = .int e.1; rw [hz])
            have hsz : kfr.length < sizeLine := Nat.lt_of_le_of_lt (show kfr.length ≤ 1000 by rw [pd_len pR]; omega) (small1000 (Nat.le_refl _))
            have fin : ∀ (z : Int), PairD HdI (putK kfr (.inl ((used + some' : Nat) : Int)) (.int z)) (addRow left used u acc (some', tv)) →
                ∃ kfr' y6 y7', ([some (.ref t), some (.int ((left : Nat) : Int)), some (.ref fa), some (.ref d), some (.ref fr), some (.int ((used : Nat) : Int)), some (.int ((some' : Nat) : Int)), some (.int (u.1 + tv))] : L2.St) = [some (.ref t), some (.int ((left : Nat) : Int)), some (.ref fa), some (.ref d), some (.ref fr), some (.int ((used : Nat) : Int)), y6, y7'] ∧ SameBut d H (upd H7 fr (.dK (putK kfr (.inl ((used + some' : Nat) : Int)) (.int z)))) ∧ (upd H7 fr (.dK (putK kfr (.inl ((used + some' : Nat) : Int)) (.int z)))) d = some (.frz od2 (.dK ktb)) ∧ (upd H7 fr (.dK (putK kfr (.inl ((used + some' : Nat) : Int)) (.int z)))) fa = some (.frz od (.dK kvs)) ∧
                      (upd H7 fr (.dK (putK kfr (.inl ((used + some' : Nat) : Int)) (.int z)))) fr = some (.dK kfr') ∧ PairD HdI kfr' (addRow left used u acc (some', tv)) := fun z hz =>
              ⟨_, _, _, rfl, fun b o hb e => by rw [upd_ne (ne_of_none e nfrH)]; exact s3 b o hb e, by rw [upd_ne nrd.symm]; exact f3, by rw [upd_ne nfr2]; exact f4, upd_same, hz⟩
            refine ⟨_, rfl, fr, rfl, .inl ⟨kfr, .inl r3⟩, _, rfl, _, rfl, _, _, rfl, rfl, _, rfl, valV kfr (.inl ((used + some' : Nat) : Int)), .inl ⟨kfr, .inl ((used + some' : Nat) : Int), .inl r3, congrArg V.int ek, rfl⟩, ?_⟩
            cases hg : dget acc (used + some') with
            | none =>
              rw [gg.1 hg]
              refine ⟨_, rfl, _, _, rfl, _, rfl, _, rfl, _, rfl, _, _, rfl, rfl, fr, _, rfl, .inl ⟨kfr, .inl ((used + some' : Nat) : Int), r3, congrArg V.int ek, hsz, rfl⟩, ?_⟩
              refine fin _ (put _ (u.1 + tv, u.2 ++ [some']) ?_ (by rw [hg]; unfold rmin; split <;> rfl))
              split <;> rfl
            | some old =>
              obtain ⟨vo, hvo, rfl⟩ := gg.2 old hg
              rw [hvo]
              refine ⟨_, rfl, _, _, rfl, _, rfl, _, rfl, _, rfl, _, _, rfl, rfl, fr, _, rfl, .inl ⟨kfr, .inl ((used + some' : Nat) : Int), r3, congrArg V.int ek, hsz, rfl⟩, ?_⟩
              refine fin _ (put _ (rmin old (u.1 + tv, u.2 ++ [some'])) ?_ (by rw [hg]; rfl))
              exact (rmin_fst old (u.1 + tv, u.2 ++ [some'])).symm
          · have c' : ¬ ((used : Nat) : Int) + ((some' : Nat) : Int) ≤ ((left : Nat) : Int) := of_decide_eq_false (Bool.eq_false_iff.mpr c)
            refine ⟨kfr, _, _, rfl, s3, f3, f4, r3, ?_⟩
            unfold addRow
            rw [if_neg (by dsimp only; omega)]
            exact pR
        · obtain ⟨kfr, y6, y7, rfl, s3, f3, f4, r3, pR⟩ := p
          rw [pd_len pt, List.take_length] at pR
          refine ⟨f3, kfr, _, _, _, rfl, fun b o e => ?_, by rw [upd_ne nfd]; exact f4, by rw [upd_ne nrd]; exact r3, pR⟩
          by_cases hb : b = d
          · subst hb
            rw [hd] at e
            cases e
            exact upd_same
          · rw [upd_ne hb]
            exact s3 b o hb e
      · obtain ⟨kfr, y5, y6, y7, rfl, s2, f2, r2, pdR⟩ := p
        rw [pd_len pd, List.take_length] at pdR
        refine ⟨f2, _, rfl, fr, kfr, _, _, _, _, _, rfl, same_mut s2 nfa, nfrH, by rw [upd_ne nfr2.symm]; exact r2, ?_⟩
        have e : bestF (ts.take (i + 1)) left = stepBest left F tb := by
          rw [take_snoc htb, bestF_snoc, hFe]
        rw [e]
        exact pdR
    · obtain ⟨fa, kvs, y3, y4, y5, y6, y7, rfl, s1, nfa, f1, pd⟩ := p
      have hxl : xs.length = ts.length := Paired.length hT
      rw [hxl, List.take_length] at pd
      have gF := good_bestF ts left
      have lF := gF.len
      refine ⟨_, rfl, fun e0 ne0 => ⟨fa, e0, kvs, rfl, rfl, by rw [upd_ne (ne_of_none f1 ne0)]; exact f1, upd_same, _, rfl, ?_⟩⟩
      have s2 : Same H (upd H2 e0 (.dK [])) := s1.trans (same_new ne0)
      have f2 : (upd H2 e0 (.dK [])) fa = some (.dK kvs) := by rw [upd_ne (ne_of_none f1 ne0)]; exact f1
      generalize upd H2 e0 (.dK []) = H3 at s2 f2
      cases hF : bestF ts left with
      | nil =>
        rw [hF] at pd
        cases pd
        rw [bv_nil hF] at q
        exact iteF (q _ s2)
      | cons e0' t0 =>
        cases kvs with
        | nil => rw [hF] at pd; cases pd
        | cons kv0 kvs0 =>
          refine iteT ?_
          generalize hkv : kv0 :: kvs0 = kvs at f2 pd
          refine ⟨fa, .dK kvs, f2, trivial, fun od => ?_⟩
          refine ⟨_, rfl, fa, od, rfl, .inl ⟨kvs, upd_same, fun D nD => ?_⟩⟩
          refine lc_ints (g := fun e : Int × List Nat => e.1) nD upd_same pd gF.1 (by omega) (fun _ => rfl) (fun n r H4 hr4 s4 Q' q' => ?_) (fun H4 s4 hy => ?_)
          · obtain ⟨v1, hv1, rfl⟩ := (pd_get n pd).2 r hr4
            exact ⟨_, rfl, _, rfl, fa, _, rfl, .inl ⟨kvs, .inl _, .inr ⟨od, s4 _ _ upd_same⟩, rfl, hv1.symm⟩, q'⟩
          · have hDd : D ≠ fa := fun e => by rw [e, upd_same] at nD; cases nD
            have s5 : Same H3 (upd H4 fa (.dK kvs)) := lock_same f2 s4
            have hy5 : (upd H4 fa (.dK kvs)) D = some (.lst (((bestF ts left).map fun x => x.2.1).map V.int)) := by
              rw [upd_ne hDd, List.map_map]
              exact hy
            refine ⟨s4 _ _ upd_same, D, _, rfl, sql hy5, by rw [List.length_map, hF]; exact Nat.zero_lt_succ _, fun m hm1 hm2 => ?_⟩
            rw [bv_min hm1 hm2] at q
            exact q _ (s2.trans s5)
end
end Oa
namespace Oat
theorem ceil_div {k r : Int} (hr : 0 < r) : (k + r - 1) / r = -((-k) / r) := by
  have h1 := Int.mul_ediv_add_emod (-k) r
  have h2 := Int.emod_nonneg (-k) (show r ≠ 0 by omega)
  have h3 := Int.emod_lt_of_pos (-k) hr
  generalize (-k) / r = q at h1
  generalize (-k) % r = m at h1 h2 h3
  refine Int.le_antisymm ?_ ?_
  · refine Int.le_of_lt_add_one ((Int.ediv_lt_iff_lt_mul hr).mpr ?_)
    rw [Int.add_mul, Int.neg_mul, Int.mul_comm q r]
    omega
  · rw [Int.le_ediv_iff_mul_le hr, Int.neg_mul, Int.mul_comm q r]
    omega
/-- whether a number is there, and no more than another -/
def atMost (num : Option Int) (d : Int) : Bool := match num with
  | none => false
  | some v => decide (v ≤ d)
theorem okAt_some {c : Case} {p e : Nat} {x : Int} {num : Option Int} : okAt c p e (some x) num = match tkv c p e x with | none => true | some d => atMost num d := rfl
end Oat
namespace Oa
open PySem PySem.Spec PyProof.Rows L2 Oat
section
variable {P : Program} {w : World} {K : PySem.W.Frag} {mg : Str → Option Value} {base : Heap}
/-! ### no_more -/
def sp_no_more (K : PySem.W.Frag) : Sp := fun vs H Q _ => ∃ a b d c carts p e s num, vs = [.ref a, .ref b, .ref d, .int ((p : Nat) : Int), oiV num, oiV s, .int ((e : Nat) : Int)] ∧ CaseAt K H a b d c carts ∧ p ≤ c.L.length ∧ e ≤ 6 ∧ ∀ H', Same H H' → Q (.bl (okAt c p e s num)) H'
theorem c_no_more (T : Txt K mg) : Cal P w K mg base CX0 2 "no_more" ["land", "works", "wants", "place", "number", "least", "left"] (sp_no_more K) := by
  refine cal0 T.d_no_more sc_no_more (fun _ _ _ _ _ _ us hl => match us, hl with | [_, _, _, _, _, _, _], _ => rfl) (fun vs H Q E h => ?_) (fun f cdv A outer s H vs Q E hr h => ?_)
  · obtain ⟨a, b, d, c, carts, p, e, s, num, rfl, _⟩ := h
    rfl
  · obtain ⟨a, b, d, c, carts, p, e, s, num, rfl, hC, hp, h6, q⟩ := h
    refine ⟨_, (pss_cons (ps_if (pt_cmpR op_isN (pv 5) pe_non (nomark _)) (pss_one (ps_ret pe_bl)) pss_nil)
      (pss_cons (ps_set (i := 7) sc_no_more.nd rfl (Or.inl rfl) (pe_op op_add (pv 5) (peOrT K (pe_ix (ixT K) (pv 2) (pv 3) (fun _ _ => rfl)) (pe_one pe_int))))
      (pss_cons (ps_if (pt_cmpR op_eq (pv 3) pe_int (nomark _)) (pss_one (ps_ret (pe_and (pe_cmpR op_notN (pv 4) pe_non (nomark _)) (pe_one (pe_cmpR op_le (pv 4) (pv 7) (nomark _)))))) pss_nil)
      (pss_cons (ps_if (PW.pt (pw_and (pt_cmpR op_eq (pv 6) pe_int (nomark _)) (pw_and1 (pt_not (pt_val (pcall (c_is_called T) (hr.mono (by omega)) (pa_cons (pv 0) (pa_cons (pv 2) (pa_cons (pv 3) pa_nil))))))))) (pss_one (ps_ret (pe_and (pe_cmpR op_notN (pv 4) pe_non (nomark _)) (pe_one (pe_cmpR op_le (pv 4) pe_int (nomark _)))))) pss_nil)
      (pss_cons (ps_if (PW.pt (pw_and (pt_cmpR op_eq (pe_ix (ixT K) (pv 1) pe_int (fun _ _ => rfl)) pe_int (nomark _)) (pw_and1 (pt_cmpR op_lt (pv 6) (pv 7) (nomark _))))) (pss_one (ps_ret pe_bl)) pss_nil)
      (pss_cons (ps_set (i := 8) sc_no_more.nd rfl (Or.inl rfl) (pe_callB (call_max2 rfl) rfl T.b_max (by decide +kernel) (pa_cons (pv 6) (pa_cons pe_int pa_nil))))
      (pss_cons (ps_if (pt_cmpR op_gt (pe_ix (ixT K) (pv 1) pe_int (fun _ _ => rfl)) pe_int (nomark _)) (pss_one (ps_set (i := 8) sc_no_more.nd rfl (Or.inl rfl) (pe_callB (call_max2 rfl) rfl T.b_max (by decide +kernel) (pa_cons (pv 8) (pa_cons (pe_op op_fdiv (pe_op op_sub (pe_op op_add (pe_op op_sub (pv 7) (pv 6)) (pe_ix (ixT K) (pv 1) pe_int (fun _ _ => rfl))) pe_int) (pe_op op_sub (pe_ix (ixT K) (pv 1) pe_int (fun _ _ => rfl)) pe_int)) pa_nil))))) pss_nil)
      (pss_one (ps_ret (pe_and (pe_cmpR op_notN (pv 4) pe_non (nomark _)) (pe_one (pe_cmpR op_le (pv 4) (pe_op op_sub (pe_op op_add (pv 7) (pe_op op_mul pe_int (pv 8))) (pv 6)) (nomark _))))))))))))), ?_⟩
    cases s with
    | none => exact ⟨_, rfl, rfl, true, rfl, iteT (q H (Same.refl _))⟩
    | some x =>
      refine ⟨_, rfl, rfl, false, rfl, iteF ?_⟩
      have hwl := hC.wl
      refine ⟨_, rfl, _, rfl, _, rfl, d, _, _, _, rfl, rfl, hC.w, atI_nat (wantsV_get (by omega)), orz (fun Q' q' => q') ?_⟩
      refine ⟨_, _, rfl, rfl, ?_⟩
      dsimp only [gName, oiV]
      generalize hnd : x + wantN c.W p = need
      have hok : okAt c p e (some x) num = match tkv c p e x with | none => true | some d => atMost num d := rfl
      have ret : ∀ (H' : Hp) (dd : Int) (y8 : Option V) (te : TE), Same H H' → okAt c p e (some x) num = atMost num dd → (∀ Q' : VK, Q' (.int dd) H' → te [some (.ref a), some (.ref b), some (.ref d), some (.int ((p : Nat) : Int)), some (oiV num), some (.int x), some (.int ((e : Nat) : Int)), some (.int need), y8] H' Q') →
          tAndV (tOp (fun x y H Q => y = .non ∧ Q (.bl (!decide (x = .non))) H) (tVar 4) (tC .non)) (tOp (rI0 fun i j => .bl (decide (i ≤ j))) (tVar 4) te) [some (.ref a), some (.ref b), some (.ref d), some (.int ((p : Nat) : Int)), some (oiV num), some (.int x), some (.int ((e : Nat) : Int)), some (.int need), y8] H' Q := by
        intro H' dd y8 te s' hq hte
        have q := q H' s'
        rw [hq] at q
        cases num with
        | none => exact ⟨_, rfl, rfl, false, rfl, iteF q⟩
        | some v =>
          refine ⟨_, rfl, rfl, true, rfl, iteT ?_⟩
          exact ⟨_, rfl, hte _ ⟨_, _, rfl, rfl, q⟩⟩
      -- if place == 0
      refine ⟨_, rfl, rfl, _, rfl, ?_⟩
      rw [decI p]
      by_cases h0 : p = 0
      · rw [decide_eq_true h0]
        refine iteT ?_
        refine ret H need none (tVar 7) (Same.refl _) ?_ (fun Q' q' => ⟨_, rfl, q'⟩)
        rw [okAt_some]
        unfold tkv takenOf
        rw [if_pos h0]
        show atMost num (x + wantN c.W p) = _
        rw [hnd]
      rw [decide_eq_false h0]
      refine iteF ?_
      dsimp only [tNext]
      show tSeq (tIfS _ _ _) _ _ [some (.ref a), some (.ref b), some (.ref d), some (.int ((p : Nat) : Int)), some (oiV num), some (.int x), some (.int ((e : Nat) : Int)), some (.int need), none] H
      refine if1s (Same H) (b := decide (e = 0) && !wanted c.L c.W p) (fun Q' q' => ?_) (fun hb H1 s1 => ?_) (fun hb H1 s1 => ?_)
      · refine ⟨_, rfl, rfl, _, rfl, ?_⟩
        rw [decI e]
        by_cases he : e = 0
        · rw [decide_eq_true he] at q' ⊢
          refine iteT ?_
          refine ⟨_, rfl, _, rfl, _, rfl, a, c.L, d, c.W, p, rfl, hC.l, hC.w, hC.wf, hC.n, hC.wl, hp, fun H1 s1 => ⟨_, rfl, ?_⟩⟩
          exact q' _ s1
        · rw [decide_eq_false he] at q' ⊢
          exact iteF (q' _ (Same.refl _))
      · have hb := Bool.and_eq_true_iff.mp hb
        have he : e = 0 := of_decide_eq_true hb.1
        have hw : wanted c.L c.W p = false := by have := hb.2; cases hh : wanted c.L c.W p with | false => rfl | true => rw [hh] at this; cases this
        refine ret H1 0 none (tC (.int 0)) s1 ?_ (fun Q' q' => q')
        rw [okAt_some]
        unfold tkv takenOf
        rw [if_neg h0, if_pos ⟨he, hw⟩]
        rfl
      have hnw : ¬ (e = 0 ∧ wanted c.L c.W p = false) := fun z => by
        rw [decide_eq_true z.1, z.2] at hb
        cases hb
      have htk : tkv c p e x = (outF c.room need e).map fun o => need + 2 * o - e := by
        unfold tkv takenOf
        rw [if_neg h0, if_neg hnw, ← hnd]
        show ((outF c.room (x + wantN c.W p) e).map _).map _ = _
        rw [Option.map_map]
        rfl
      have r2 := hC.r2
      have r20 := hC.r20
      have hk1 := same_t s1 hC.k
      dsimp only [tNext]
      show tSeq (tIfS _ _ _) _ _ [some (.ref a), some (.ref b), some (.ref d), some (.int ((p : Nat) : Int)), some (oiV num), some (.int x), some (.int ((e : Nat) : Int)), some (.int need), none] H1
      -- works[1] == 2 and left < need
      refine ⟨_, rfl, b, _, 1, _, rfl, rfl, hk1, atI_nat (j := 1) rfl, rfl, _, rfl, ?_⟩
      have e2 : decide (V.int ((c.room : Nat) : Int) = V.int 2) = decide (c.room = 2) := decide_eq_decide.mpr ⟨fun h => by injection h with h; omega, fun h => by rw [h]; rfl⟩
      rw [e2]
      have rest : ∀ o : Int, outF c.room need e = some o → (∀ H' : Hp, Same H H' → ∀ y8 : Option V, y8 = some (.int o) → tRet (tAndV (tOp (fun x y H Q => y = .non ∧ Q (.bl (!decide (x = .non))) H) (tVar 4) (tC .non)) (tOp (rI0 fun i j => .bl (decide (i ≤ j))) (tVar 4) (tOp (rI0 fun i j => .int (i - j)) (tOp (rI0 fun i j => .int (i + j)) (tVar 7) (tOp (rI CMul fun i j => .int (i * j)) (tC (.int 2)) (tVar 8))) (tVar 6)))) { nx := fun _ H' => Q .non H', rt := Q } [some (.ref a), some (.ref b), some (.ref d), some (.int ((p : Nat) : Int)), some (oiV num), some (.int x), some (.int ((e : Nat) : Int)), some (.int need), y8] H') := by
        intro o ho H' s' y8 hy8
        subst hy8
        refine ret H' (need + 2 * o - e) (some (.int o)) _ s' ?_ (fun Q' q' => ?_)
        · rw [okAt_some, htk, ho]
          rfl
        · exact ⟨_, rfl, _, rfl, _, _, rfl, rfl, .inl ⟨by decide, by decide⟩, _, _, rfl, rfl, _, rfl, _, _, rfl, rfl, q'⟩
      by_cases hr : c.room = 2
      · rw [decide_eq_true hr]
        refine iteT ?_
        refine ⟨_, rfl, _, rfl, _, _, rfl, rfl, _, rfl, ite2 (fun c3 => ?_) (fun c3 => ?_)⟩
        · have c3 := of_decide_eq_true c3
          have ho : outF c.room need e = none := by
            unfold outF
            rw [hr, if_neg (by simp; omega), if_pos rfl]
          have q := q H1 s1
          rw [okAt_some, htk, ho] at q
          exact q
        · have c3 := of_decide_eq_false (Bool.eq_false_iff.mpr c3)
          have ho : outF c.room need e = some ((max e 1 : Nat) : Int) := by
            unfold outF
            rw [hr, if_pos (by simp; omega)]
          have em : (if (1 : Int) > (e : Int) then (1 : Int) else (e : Int)) = ((max e 1 : Nat) : Int) := by split <;> omega
          refine ⟨_, rfl, _, _, rfl, ?_⟩
          dsimp only [gName]
          refine ⟨_, rfl, b, _, 1, _, rfl, rfl, hk1, atI_nat (j := 1) rfl, _, _, rfl, rfl, false, congrArg V.bl (decide_eq_false (by rw [hr]; decide)), iteF ?_⟩
          refine rest _ ho H1 s1 _ ?_
          rw [em]
      · rw [decide_eq_false hr]
        refine iteF ?_
        have ho := outF_max (room := c.room) (e := e) (need := need) (by omega)
        have em : (if (1 : Int) > (e : Int) then (1 : Int) else (e : Int)) = max (e : Int) 1 := by split <;> omega
        refine ⟨_, rfl, _, _, rfl, ?_⟩
        dsimp only [gName]
        refine ⟨_, rfl, b, _, 1, _, rfl, rfl, hk1, atI_nat (j := 1) rfl, _, _, rfl, rfl, true, congrArg V.bl (decide_eq_true (by omega)), iteT ?_⟩
        refine ⟨_, rfl, _, rfl, _, rfl, _, _, rfl, rfl, _, rfl, b, _, 1, _, rfl, rfl, hk1, atI_nat (j := 1) rfl, _, _, rfl, rfl, _, _, rfl, rfl, _, rfl, b, _, 1, _, rfl, rfl, hk1, atI_nat (j := 1) rfl, _, _, rfl, rfl, _, _, rfl, rfl, ⟨by omega, by omega⟩, _, _, rfl, ?_⟩
        dsimp only [gName]
        refine rest _ ho H1 s1 _ ?_
        rw [em]
        have ecd : (need - (e : Int) + (c.room : Int) - 3) / ((c.room : Int) - 2) = 0 - ((e : Int) - need) / ((c.room : Int) - 2) := by
          have := ceil_div (k := need - (e : Int)) (r := (c.room : Int) - 2) (by omega)
          rw [show need - (e : Int) + (c.room : Int) - 3 = need - (e : Int) + ((c.room : Int) - 2) - 1 by omega, this, show -(need - (e : Int)) = (e : Int) - need by omega]
          omega
        rw [ecd]
        congr 2
        generalize max (e : Int) 1 = M
        generalize 0 - ((e : Int) - need) / ((c.room : Int) - 2) = N
        split <;> omega
end
end Oa
namespace Oa
open PySem PySem.Spec PyProof.Rows L2 Oat
/-! ### several dicts locked at once -/
def tLocks : Nat → TS → TS
  | 0, t => t
  | n + 1, t => tLock (tLocks n t)
theorem ps_locks {X : Cx} {st : Stmt} {t : TS} (h : PS X st t) : ∀ n, PS X st (tLocks n t)
  | 0 => h
  | n + 1 => ps_lock (ps_locks h n)
theorem locks_read {t : TS} {σ : L2.St} : ∀ (ds : List Addr) {D : Ends} {H : Hp}, ds.Nodup → (∀ d ∈ ds, ∃ kvs, H d = some (.dK kvs)) →
    (∀ (H1 : Hp) (D' : Ends), (∀ a, a ∉ ds → H1 a = H a) → (∀ d ∈ ds, ∃ od kvs, H d = some (.dK kvs) ∧ H1 d = some (.frz od (.dK kvs))) →
      (∀ σ' H', Same H1 H' → (∀ H2, (∀ a, a ∉ ds → H2 a = H' a) → (∀ d ∈ ds, H2 d = H d) → D.nx σ' H2) → D'.nx σ' H') → t D' σ H1) → tLocks ds.length t D σ H
  | [], D, H, _, _, h => h H D (fun _ _ => rfl) (fun d hd => nomatch hd) fun σ' H' _ k => k H' (fun _ _ => rfl) fun d hd => nomatch hd
  | d :: ds, D, H, nd, hk, h => by
    obtain ⟨hd, nd'⟩ := List.nodup_cons.mp nd
    obtain ⟨kvs, hkv⟩ := hk d List.mem_cons_self
    refine ⟨d, .dK kvs, hkv, trivial, fun od => ?_⟩
    have hne : ∀ d' ∈ ds, d' ≠ d := fun d' h' e => hd (e ▸ h')
    refine locks_read ds nd' (fun d' h' => ?_) fun H1 D' e1 e2 e3 => h H1 D' (fun a ha => ?_) (fun d' h' => ?_) fun σ' H' s k => e3 σ' H' s fun H2 g1 g2 => ⟨?_, k _ (fun a ha => ?_) fun d' h' => ?_⟩
    · rw [upd_ne (hne d' h')]
      exact hk d' (List.mem_cons_of_mem _ h')
    · rw [e1 a fun z => ha (List.mem_cons_of_mem _ z), upd_ne (fun z => ha (by rw [z]; exact List.mem_cons_self))]
    · rcases List.mem_cons.mp h' with z | z
      · subst z
        exact ⟨od, kvs, hkv, by rw [e1 d' hd, upd_same]⟩
      · obtain ⟨o2, k2, h1, h2⟩ := e2 d' z
        rw [upd_ne (hne d' z)] at h1
        exact ⟨o2, k2, h1, h2⟩
    · rw [g1 d hd]
      exact s _ _ (by rw [e1 d hd, upd_same])
    · rw [upd_ne (fun z => ha (by rw [z]; exact List.mem_cons_self))]
      exact g1 a fun z => ha (List.mem_cons_of_mem _ z)
    · rcases List.mem_cons.mp h' with z | z
      · subst z
        rw [upd_same, hkv]
      · rw [upd_ne (hne d' z), g2 d' z, upd_ne (hne d' z)]
section
variable {P : Program} {w : World} {K : PySem.W.Frag} {mg : Str → Option Value} {base : Heap}
/-! ### is_paper -/
def capV : Int := 1000000000000000000000000000000
/-- a list of tables of whole numbers, each by itself -/
structure PaperAt (K : PySem.W.Frag) (H : Hp) (l : Addr) (ds : List Addr) (T : Nat → List (Nat × Int)) : Prop where
  l : H l = some (.lst (ds.map V.ref))
  nd : ds.Nodup
  at_ : ∀ i d, ds[i]? = some d → ITab H (.ref d) (T i)
theorem PaperAt.same {H H' : Hp} {l : Addr} {ds : List Addr} {T : Nat → List (Nat × Int)} (h : PaperAt K H l ds T) (s : Same H H') : PaperAt K H' l ds T := ⟨s _ _ h.l, h.nd, fun i d hd => (h.at_ i d hd).same s⟩
structure TabOk (left : Nat) (t : List (Nat × Int)) : Prop where
  nd : (t.map (·.1)).Nodup
  k : ∀ x ∈ t, x.1 ≤ left
  v : ∀ x ∈ t, 0 ≤ x.2 ∧ x.2 ≤ capV
theorem TabOk.len {left : Nat} {t : List (Nat × Int)} (h : TabOk left t) : t.length ≤ left + 1 := by
  have := List.Nodup.length_le_of_subset h.nd (l₂ := List.range (left + 1)) fun k hk => by
    obtain ⟨x, hx, rfl⟩ := List.mem_map.mp hk
    exact List.mem_range.mpr (by have := h.k x hx; omega)
  rw [List.length_map, List.length_range] at this
  exact this
def KeyOk (left : Nat) (H : Hp) (v : V) : Prop := ∃ (p : Addr) (k n : Int), v = .ref p ∧ H p = some (.tup [.int k, .int n]) ∧ 0 ≤ k ∧ k ≤ left ∧ 0 ≤ n ∧ n ≤ capV
def sp_is_paper (K : PySem.W.Frag) : Sp := fun vs H Q _ => ∃ a L l ds T left, vs = [.ref a, .ref l, .int ((left : Nat) : Int)] ∧ SqT K H a (landV L) ∧ L.length < 30 ∧ left ≤ 6 ∧ PaperAt K H l ds T ∧ ds.length = L.length + 1 ∧ (∀ i, i ≤ L.length → TabOk left (T i)) ∧ ∀ H', Same H H' → Q (.bl true) H'
theorem c_is_paper (T : Txt K mg) : Cal P w K mg base CX0 2 "is_paper" ["land", "thing", "left"] (sp_is_paper K) := by
  refine cal0 T.d_is_paper sc_is_paper (fun _ _ _ _ _ _ us hl => match us, hl with | [_, _, _], _ => rfl) (fun vs H Q E h => ?_) (fun f cdv A outer s H vs Q E hr h => ?_)
  · obtain ⟨a, L, l, ds, Tb, left, rfl, _⟩ := h
    rfl
  · obtain ⟨a, L, l, ds, Tb, left, rfl, hA, hn, h6, hP, hdl, hok, q⟩ := h
    refine ⟨_, (pss_cons (ps_if (PW.pt (pw_or (pt_not (pt_val (pe_callB (isi K) rfl T.b_isinstance (by decide +kernel) (pa_cons (pv 1) (pa_cons (pe_bltn (v := .ty "list") rfl T.b_list (by decide +kernel) rfl) pa_nil))))) (pw_or (pt_cmpR op_ne (pe_callB (lenS K) rfl T.b_len PySem.boot_len (pa_cons (pv 1) pa_nil)) (pe_callB (lenS K) rfl T.b_len PySem.boot_len (pa_cons (pv 0) pa_nil)) (nomark _)) (pw_or1 (pt_not (pt_val (pe_callB (allL K rfl) rfl T.b_all (by decide +kernel) (pa_cons (pe_lc (own := [("one", 4)]) (g := gName 4) rfl sc_is_paper.nd (piL K (pv 1)) (blkOk_by (own := [("one", 4)]) (N := ["land", "thing", "left", "keys", "one", "key", "number"]) (sc := (defScope s_is_paper)) (by decide +kernel)) (fun _ _ _ _ _ => pg_name (i := 4) sc_is_paper.nd rfl (Or.inl rfl)) (fun _ _ _ _ _ => pts_nil) (fun _ _ _ _ _ => (pe_callB (isi K) rfl T.b_isinstance (by decide +kernel) (pa_cons (pv 4) (pa_cons (pe_bltn (v := .ty "dict") rfl T.b_dict (by decide +kernel) rfl) pa_nil))))) pa_nil)))))))) (pss_one (ps_ret pe_bl)) pss_nil)
      (pss_cons (ps_locks (ps_setLc2 (i := 3) (own := [("one", 4), ("key", 5)]) (vs1 := [5]) (g := gName 4) (g1 := gName 5) rfl sc_is_paper.nd rfl rfl (sw_true rfl rfl rfl (by decide +kernel)) (piL K (pv 1)) (blkOk_by (own := [("one", 4), ("key", 5)]) (N := ["land", "thing", "left", "keys", "one", "key", "number"]) (sc := (defScope s_is_paper)) (by decide +kernel)) (by decide) (fun _ _ _ _ _ => pg_name (i := 4) sc_is_paper.nd rfl (Or.inl rfl)) (fun _ _ _ _ _ => pts_nil) (fun _ _ _ _ _ => pi_keys (pv 4)) (fun _ _ _ _ _ => pg_name (i := 5) sc_is_paper.nd rfl (Or.inl rfl)) (fun _ _ _ _ _ => pts_nil) (fun _ _ _ _ _ => (pe_tup (pa_cons (pv 5) (pa_cons (pe_dget (hu_of hr) (pv 4) (pv 5) (fun _ _ => rfl)) pa_nil))))) ds.length)
      (pss_one (ps_ret (pe_callB (allL K rfl) rfl T.b_all (by decide +kernel) (pa_cons (pe_lc (own := [("key", 5), ("number", 6)]) (g := gTup K 2 (gCons (gName 5) (gCons (gName 6) gNil))) rfl sc_is_paper.nd (piL K (pv 3)) (blkOk_by (own := [("key", 5), ("number", 6)]) (N := ["land", "thing", "left", "keys", "one", "key", "number"]) (sc := (defScope s_is_paper)) (by decide +kernel)) (fun _ _ _ _ _ => pgTupK K rfl (pgs_cons (pg_name (i := 5) sc_is_paper.nd rfl (Or.inl rfl)) (pgs_cons (pg_name (i := 6) sc_is_paper.nd rfl (Or.inl rfl)) pgs_nil))) (fun _ _ _ _ _ => pts_nil) (fun _ _ _ _ _ => (pe_and (pcall (c_is_whole T) (hr.mono (by omega)) (pa_cons (pv 5) (pa_cons pe_int (pa_cons (pv 2) pa_nil)))) (pe_one (pcall (c_is_whole T) (hr.mono (by omega)) (pa_cons (pv 6) (pa_cons pe_int (pa_cons (pe_glob (v := .int 1000000000000000000000000000000) rfl T.i_MOST_NUMBER.choose_spec ⟨_, rfl⟩) pa_nil)))))))) pa_nil)))))), ?_⟩
    refine if_no (fun H' => Same H H') (fun Q' q' => ?_) (fun H1 s1 => ?_)
    · refine ⟨_, rfl, .ref l, .ty "list", .type "list", .type "list", true, rfl, .ty "list", .base (.lst hP.l), kit_ty (by decide +kernel), true, rfl, iteF ?_⟩
      refine ⟨_, rfl, l, _, rfl, .inl (sql hP.l), _, rfl, a, _, rfl, .inr hA, rfl, false, ?_, iteF ?_⟩
      · refine congrArg (fun x => V.bl (!x)) (decide_eq_true ?_)
        rw [List.length_map, landV_len, hdl]
      refine ⟨_, rfl, l, rfl, ⟨_, sql hP.l⟩, fun B nB => ?_⟩
      refine lc_rel (walk_list (xs := ds.map V.ref)) nB (by rw [List.length_map]; omega) (fun H' s => sql (s _ _ hP.l)) (fun _ => true) (fun i v _ => v = .bl true) (fun _ _ _ _ _ _ _ h => h) (fun i x H2 H3 l' hi s2 hy y => ?_) (fun ys H2 s2 hy hp => ?_)
      · obtain ⟨rfl, hx⟩ := y
        rw [List.getElem?_map] at hx
        obtain ⟨d, hd, rfl⟩ := Option.map_eq_some_iff.mp hx
        obtain ⟨d', kvs, e, hdk, _⟩ := hP.at_ i d hd
        cases e
        refine ⟨Same.refl _, rfl, fun Q2 q2 => q2 _ (Same.refl _), fun _ H4 s4 Q2 q2 => ?_⟩
        exact ⟨_, rfl, .ref d, .ty "dict", .type "dict", .type "dict", true, rfl, .ty "dict", .base (.dK ((s2.trans s4) _ _ hdk)), kit_ty (by decide +kernel), q2 _ _ (Same.refl _) rfl⟩
      · obtain ⟨bs, ebs, hb⟩ := all_yes hp
        refine ⟨B, bs, rfl, sql (by rw [hy, ebs]), ?_⟩
        rw [hb]
        exact ⟨true, rfl, q' _ s2⟩
    have hP1 := hP.same s1
    -- keys = [(key, one[key]) for one in thing for key in one]
    refine locks_read ds hP.nd (fun d hd => ?_) (fun H2 D' e1 e2 e3 => ?_)
    · obtain ⟨i, hi⟩ := List.getElem?_of_mem hd
      obtain ⟨d', kvs, e, hdk, _⟩ := hP1.at_ i d hi
      cases e
      exact ⟨kvs, hdk⟩
    have hlds : l ∉ ds := fun z => by
      obtain ⟨i, hi⟩ := List.getElem?_of_mem z
      obtain ⟨d', kvs, e, hdk, _⟩ := hP1.at_ i l hi
      cases e
      rw [hP1.l] at hdk
      cases hdk
    have hl2 : H2 l = some (.lst (ds.map V.ref)) := by rw [e1 l hlds]; exact hP1.l
    have hdat : ∀ i d, ds[i]? = some d → ∃ od kvs, H2 d = some (.frz od (.dK kvs)) ∧ PairD (fun v (z : Int) => v = .int z) kvs (Tb i) := fun i d hi => by
      obtain ⟨d', kvs, e, hdk, pd⟩ := hP1.at_ i d hi
      cases e
      obtain ⟨od, k2, h1, h2⟩ := e2 d (List.mem_of_getElem? hi)
      rw [hdk] at h1
      cases h1
      exact ⟨od, kvs, h2, pd⟩
    refine ⟨_, rfl, l, rfl, ⟨_, sql hl2⟩, fun D nD => ?_⟩
    refine ⟨fun i m H => m = ds.length - i ∧ i ≤ ds.length ∧ Same H2 H ∧ ∃ acc, H D = some (.lst acc) ∧ acc.length ≤ 10 * i ∧ ∀ v ∈ acc, KeyOk left H v, ⟨ds.length, rfl, Nat.zero_le _, same_new nD, [], upd_same, Nat.le_refl _, fun v h => nomatch h⟩, ?_⟩
    rintro i m H3 ⟨rfl, hi, s3, acc, hacc, hal, hall⟩
    by_cases hlt : i < ds.length
    · refine .inr ⟨(walk_list (K := K) (a := l) (xs := ds.map V.ref)).goes i H3 (by rw [List.length_map]; exact hlt) (sql (s3 _ _ hl2)), fun H => Same H2 H ∧ ∃ acc, H D = some (.lst acc) ∧ acc.length ≤ 10 * (i + 1) ∧ ∀ v ∈ acc, KeyOk left H v, fun H' p => ⟨ds.length - (i + 1), by omega, rfl, hlt, p⟩, fun x H4 y => ?_⟩
      obtain ⟨rfl, hx⟩ := (walk_list (K := K) (a := l) (xs := ds.map V.ref)).yields i H3 x H4 (by rw [List.length_map]; exact hlt) (sql (s3 _ _ hl2)) y
      rw [List.getElem?_map] at hx
      obtain ⟨d, hd, rfl⟩ := Option.map_eq_some_iff.mp hx
      obtain ⟨od, kvs, hfz, pd⟩ := hdat i d hd
      have hT := hok i (by omega)
      have hTl := hT.len
      refine ⟨rfl, ?_⟩
      unfold tYes
      dsimp only
      rw [if_pos rfl]
      have hD2 : D ≠ d := fun e => by rw [e, hfz] at nD; cases nD
      refine ⟨_, rfl, d, od, rfl, .inl ⟨kvs, s3 _ _ hfz, ?_⟩⟩
      refine ⟨fun j k H => k = kvs.length - j ∧ j ≤ kvs.length ∧ Same H2 H ∧ ∃ acc, H D = some (.lst acc) ∧ acc.length ≤ 10 * i + j ∧ ∀ v ∈ acc, KeyOk left H v, ⟨kvs.length, rfl, Nat.zero_le _, s3, acc, hacc, by omega, hall⟩, ?_⟩
      rintro j k H5 ⟨rfl, hj, s5, acc2, hacc2, hal2, hall2⟩
      have hfz5 := s5 _ _ hfz
      by_cases hjl : j < kvs.length
      · refine .inr ⟨(walk_keys (d := d) (o := od) (kvs := kvs)).goes j H5 hjl hfz5, fun H => Same H2 H ∧ ∃ acc, H D = some (.lst acc) ∧ acc.length ≤ 10 * i + (j + 1) ∧ ∀ v ∈ acc, KeyOk left H v, fun H' p => ⟨kvs.length - (j + 1), by omega, rfl, hjl, p⟩, fun x H6 y => ?_⟩
        obtain ⟨rfl, kk, vv, hkk, rfl⟩ := (walk_keys (d := d) (o := od) (kvs := kvs)).yields j H5 x H6 hjl hfz5 y
        obtain ⟨n, z, he, rfl, rfl⟩ := pd_at pd hkk
        have hm := List.mem_of_getElem? he
        have hk1 := hT.k _ hm
        have hv1 := hT.v _ hm
        obtain ⟨v1, hv1', rfl⟩ := (pd_get n pd).2 z (dget_at hT.nd he)
        refine ⟨rfl, ?_⟩
        rw [if_pos rfl]
        refine ⟨_, rfl, _, rfl, _, rfl, d, _, rfl, .inl ⟨kvs, .inl _, .inr ⟨od, hfz5⟩, rfl, hv1'.symm⟩, by show 2 ≤ sizeLine; decide, fun p np => ?_⟩
        have s7 := same_new (o := .tup [.int ((n : Nat) : Int), .int z]) np
        have pD : D ≠ p := ne_of_none hacc2 np
        refine ⟨acc2, s7 _ _ hacc2, Nat.lt_of_le_of_lt (show acc2.length ≤ 1000 by rw [pd_len pd] at hj hjl; omega) (small1000 (Nat.le_refl _)), same_mut (s5.trans s7) nD, acc2 ++ [.ref p], upd_same, by rw [List.length_append]; show acc2.length + 1 ≤ _; omega, fun v hv => ?_⟩
        rcases List.mem_append.mp hv with h | h
        · obtain ⟨p', k', n', rfl, hp', g⟩ := hall2 v h
          refine ⟨p', k', n', rfl, ?_, g⟩
          rw [upd_ne (ne_of (s7 _ _ hp') (s7 _ _ hacc2) (fun z => nomatch z))]
          exact s7 _ _ hp'
        · rw [List.mem_singleton.mp h]
          exact ⟨p, ((n : Nat) : Int), z, rfl, by rw [upd_ne pD.symm, upd_same]; rfl, by omega, by have : n ≤ left := hk1; omega, hv1.1, hv1.2⟩
      · have hje : j = kvs.length := by omega
        subst hje
        refine .inl ⟨(walk_keys (d := d) (o := od) (kvs := kvs)).stops H5 hfz5, s5, acc2, hacc2, ?_, hall2⟩
        rw [pd_len pd] at hal2
        omega
    · have hie : i = ds.length := by omega
      subst hie
      have hstop := (walk_list (K := K) (a := l) (xs := ds.map V.ref)).stops H3 (sql (s3 _ _ hl2))
      rw [List.length_map] at hstop
      refine .inl ⟨hstop, ?_⟩
      dsimp only [gName]
      refine e3 _ H3 s3 fun H4 g1 g2 => ?_
      have hDds : D ∉ ds := fun z => by
        obtain ⟨i, hi⟩ := List.getElem?_of_mem z
        obtain ⟨od, kvs, hfz, _⟩ := hdat i D hi
        rw [hfz] at nD
        cases nD
      have s4 : Same H1 H4 := fun b o e => by
        by_cases hb : b ∈ ds
        · rw [g2 b hb]; exact e
        · rw [g1 b hb]
          exact s3 _ _ (by rw [e1 b hb]; exact e)
      have hacc4 : H4 D = some (.lst acc) := by rw [g1 D hDds]; exact hacc
      have hall4 : ∀ v ∈ acc, KeyOk left H4 v := fun v hv => by
        obtain ⟨p, k, n, rfl, hp, g⟩ := hall v hv
        refine ⟨p, k, n, rfl, ?_, g⟩
        have hpd : p ∉ ds := fun z => by
          obtain ⟨i, hi⟩ := List.getElem?_of_mem z
          obtain ⟨od, kvs, hfz, _⟩ := hdat i p hi
          rw [s3 _ _ hfz] at hp
          cases hp
        rw [g1 p hpd]
        exact hp
      have s04 := s1.trans s4
      -- return all([..])
      refine ⟨_, rfl, D, rfl, ⟨_, sql hacc4⟩, fun B nB => ?_⟩
      refine lc_it (walk_list (xs := acc)) (g := gTup K 2 (gCons (gName 5) (gCons (gName 6) gNil))) (fun i H9 => Same H4 H9 ∧ H9 B = some (.lst ((List.replicate i true).map V.bl))) ⟨same_new nB, upd_same⟩ (fun i H9 _ p => sql (p.1 _ _ hacc4)) (fun i x H9 H10 hi p y => ?_) (fun H9 p => ?_)
      · obtain ⟨s9, hB9⟩ := p
        obtain ⟨rfl, hx⟩ := y
        obtain ⟨pp, k, n, rfl, hpp, g3, g4, g5, g6⟩ := hall4 x (List.mem_of_getElem? hx)
        refine ⟨pp, _, rfl, sqt (s9 _ _ hpp), rfl, _, _, rfl, _, _, rfl, rfl, rfl, ?_⟩
        unfold tYes
        dsimp only
        rw [if_pos rfl]
        have w1 : isWholeV (.int k) 0 ((left : Nat) : Int) = true := decide_eq_true ⟨g3, g4⟩
        have w2 : isWholeV (.int n) 0 1000000000000000000000000000000 = true := decide_eq_true ⟨g5, g6⟩
        refine ⟨_, rfl, _, rfl, _, _, _, rfl, .inl ⟨_, rfl⟩, true, congrArg V.bl w1, iteT ?_⟩
        refine ⟨_, rfl, _, _, _, rfl, .inl ⟨_, rfl⟩, ?_⟩
        rw [w2]
        refine ⟨_, hB9, Nat.lt_of_le_of_lt (show _ ≤ 1000 by rw [List.length_map, List.length_replicate]; omega) (small1000 (Nat.le_refl _)), same_mut s9 nB, ?_⟩
        rw [upd_same, List.replicate_succ', List.map_append]
        rfl
      · obtain ⟨s9, hB9⟩ := p
        refine ⟨B, _, rfl, sql hB9, ?_⟩
        rw [show (List.replicate acc.length true).all id = true by simp]
        exact q _ (s04.trans s9)
end
end Oa
namespace Oat
theorem tab_up {c : Case} (wf : WfL c.L) {p : Nat} (hp : p ≤ c.L.length) : ((takes (tab c p)).map (·.1)).Pairwise (· < ·) := by
  unfold takes
  rw [List.map_map, tab_eq wf hp]
  unfold tabOf
  refine List.Pairwise.map _ (R := fun a b : Nat × TRow => a.1 < b.1) (fun a b h => h) ?_
  refine List.Pairwise.filterMap _ ?_ (List.pairwise_lt_range (n := c.left + 1))
  intro a a' haa b hb b' hb'
  obtain ⟨r, _, rfl⟩ := Option.map_eq_some_iff.mp hb
  obtain ⟨r', _, rfl⟩ := Option.map_eq_some_iff.mp hb'
  exact haa
end Oat
namespace Oa
open PySem PySem.Spec PyProof.Rows L2 Oat
section
variable {P : Program} {w : World} {K : PySem.W.Frag} {mg : Str → Option Value} {base : Heap}
/-! ### paper -/
def sp_paper (K : PySem.W.Frag) : Sp := fun vs H Q _ => ∃ a b d c carts, vs = [.ref a, .ref b, .ref d, .int ((c.left : Nat) : Int)] ∧ CaseAt K H a b d c carts ∧ c.room ≤ 20 ∧ ∀ l ds H', Same H H' → ds.length = c.L.length + 1 → PaperAt K H' l ds (fun k => takes (tab c k)) → Q (.ref l) H'
theorem c_paper (T : Txt K mg) : CalK P w K mg base CX0 5 "paper" ["land", "works", "wants", "left"] 3 "left" (.int 0) (sp_paper K) := by
  refine calK T.d_paper sc_paper rfl (fun _ _ _ _ _ _ us ws h1 h2 => match us, ws, h1, h2 with | [_, _, _], [_], _, _ => rfl) (fun _ _ _ _ _ _ us ws h1 h2 => match us, ws, h1, h2 with | [_, _, _], [_], _, _ => ⟨_, _, _, _, _, _, rfl, rfl, rfl⟩) (fun vs H Q E h => ?_) (fun f cdv A outer s H vs Q E hr h => ?_)
  · obtain ⟨a, b, d, c, carts, rfl, _⟩ := h
    rfl
  · obtain ⟨a, b, d, c, carts, rfl, hC, h20, q⟩ := h
    refine ⟨_, (pss_cons (ps_expr (pcall (c_look_case T) (hr.mono (by omega)) (pa_cons (pv 0) (pa_cons (pv 1) (pa_cons (pv 2) (pa_cons (pv 3) pa_nil))))))
      (pss_one (ps_ret (pe_lc (own := [("table", 4)]) (g := gName 4) rfl sc_paper.nd (piL K (pcall (c_tables_of T) (hr.mono (by omega)) (pa_cons (pv 0) (pa_cons (pv 1) (pa_cons (pv 2) (pa_cons (pv 3) pa_nil)))))) (blkOk_by (own := [("table", 4)]) (N := ["land", "works", "wants", "left", "table", "some"]) (sc := (defScope s_paper)) (by decide +kernel)) (fun _ _ _ _ _ => pg_name (i := 4) sc_paper.nd rfl (Or.inr rfl)) (fun _ _ _ _ _ => pts_nil) (fun _ _ _ _ _ => (pe_dc (own := [("some", 5)]) (g := gName 5) rfl sc_paper.nd (piL K (pe_callB (call_sortedDI rfl) rfl T.b_sorted (by decide +kernel) (pa_cons (pv 4) pa_nil))) (blkOk_by (own := [("some", 5)]) (N := ["land", "works", "wants", "left", "table", "some"]) (sc := _) (by kernel_rfl)) (fun _ _ _ _ _ => pg_name (i := 5) sc_paper.nd rfl (Or.inl rfl)) (fun _ _ _ _ _ => pts_nil) (fun _ _ _ _ _ => (pv 5)) (fun _ _ _ _ _ => (pe_ix (ixT K) (pe_dget (hu_of hr) (pv 4) (pv 5) (fun _ _ => rfl)) pe_int (fun _ _ => rfl))))))))), ?_⟩
    refine ⟨_, rfl, _, rfl, _, rfl, _, rfl, a, b, d, c, carts, rfl, hC, h20, fun H1 s1 => ?_⟩
    have hC1 := hC.same s1
    have h6 : c.left ≤ 6 := Nat.le_trans hC.lf hC.c6
    have hn := hC.n
    refine ⟨_, rfl, _, rfl, _, rfl, _, rfl, a, b, d, c, carts, rfl, hC1, fun D ds H2 nD s2 hl hf tb => ?_⟩
    refine ⟨D, rfl, ⟨_, sql tb.l⟩, fun B nB => ?_⟩
    refine lc_it (walk_list (xs := ds.map V.ref)) (g := gName 4) (fun i H => Same H2 H ∧ ∃ es : List Addr, H B = some (.lst (es.map V.ref)) ∧ es.length = i ∧ es.Nodup ∧ (∀ e ∈ es, H e ≠ none ∧ e ≠ B) ∧ ∀ j e, es[j]? = some e → ITab H (.ref e) (takes (tab c j))) ⟨same_new nB, [], upd_same, rfl, List.nodup_nil, (fun _ h => nomatch h), fun _ _ h => nomatch h⟩ (fun i H _ p => sql (p.1 _ _ tb.l)) (fun i x H3 H4 hi p y => ?_) (fun H3 p => ?_)
    · obtain ⟨s3, es, hB3, hel, end_, hef, hea⟩ := p
      obtain ⟨rfl, hx⟩ := y
      rw [List.length_map] at hi
      rw [List.getElem?_map] at hx
      obtain ⟨dd, hdd, rfl⟩ := Option.map_eq_some_iff.mp hx
      obtain ⟨dd', kvs, e, hdk, pd⟩ := tak_of tb hdd
      cases e
      refine ⟨rfl, ?_⟩
      unfold tYes
      dsimp only
      rw [if_pos rfl]
      have hp : i ≤ c.L.length := by omega
      have ndt := takes_nd (tab_nd hC.wf hp)
      have ltt : (takes (tab c i)).length ≤ c.left + 1 := by rw [takes_len]; exact tab_len hC.wf hp
      have hkeys : kvs.map (·.1) = ((takes (tab c i)).map fun x => (x.1 : Int)).map Sum.inl := by
        have : ∀ {kvs : List (Key × V)} {t : List (Nat × Int)}, PairD (HeadAt K H2) kvs t → kvs.map (·.1) = (t.map fun x => (x.1 : Int)).map Sum.inl := by
          intro kvs t h
          induction h with
          | nil => rfl
          | cons a _ ih => rw [List.map_cons, ih, a.1]; rfl
        exact this pd
      have hd3 := s3 _ _ hdk
      refine ⟨_, rfl, dd, kvs, _, rfl, .inl hd3, hkeys, by rw [List.length_map]; omega, fun ys p hperm hsort np => ?_⟩
      have eys : ys = (takes (tab c i)).map fun x => (x.1 : Int) := by
        have hup := tab_up hC.wf hp
        have h2 : ((takes (tab c i)).map fun x => (x.1 : Int)).Pairwise (· ≤ ·) := by
          rw [show ((takes (tab c i)).map fun x => (x.1 : Int)) = ((takes (tab c i)).map (·.1)).map (fun k : Nat => (k : Int)) by rw [List.map_map]; rfl]
          exact List.Pairwise.map _ (fun a b h => by omega) hup
        exact List.Perm.eq_of_pairwise (le := fun a b : Int => a ≤ b) (fun a b _ _ h1 h2 => by omega) hsort h2 hperm
      subst eys
      have s4 := same_new (o := .lst (((takes (tab c i)).map fun x => (x.1 : Int)).map V.int)) np
      have hp4 : (upd H4 p (.lst (((takes (tab c i)).map fun x => (x.1 : Int)).map V.int))) p = some (.lst (((takes (tab c i)).map fun x => (x.1 : Int)).map V.int)) := upd_same
      generalize upd H4 p (.lst (((takes (tab c i)).map fun x => (x.1 : Int)).map V.int)) = H5 at s4 hp4
      refine ⟨p, rfl, ⟨_, sql hp4⟩, fun C nC => ?_⟩
      have s35 := s3.trans s4
      refine dc_it (walk_list (K := K) (xs := ((takes (tab c i)).map fun x => (x.1 : Int)).map V.int)) (g := gName 5) (tt := tYes) (tk := tVar 5) (tv := tOp (rIxT K) (tDGet (tVar 4) (tVar 5)) (tC (.int 0))) (fun j H => Same H5 H ∧ ∃ cv, H C = some (.dK cv) ∧ PairD IsI cv ((takes (tab c i)).take j)) ⟨same_new nC, [], upd_same, .nil⟩ (fun j H _ p => sql (p.1 _ _ hp4)) (fun j x H6 H7 hj p y => ?_) (fun H6 p => ?_)
      · obtain ⟨s6, cv, hcv, pc⟩ := p
        obtain ⟨rfl, hx⟩ := y
        rw [List.map_map, List.getElem?_map] at hx
        obtain ⟨⟨n, v⟩, he, rfl⟩ := Option.map_eq_some_iff.mp hx
        have dg : dget (takes (tab c i)) n = some v := dget_at ndt he
        obtain ⟨v1, hv1, p1, xs1, rfl, hh⟩ := (pd_get n pd).2 v dg
        refine ⟨rfl, ?_⟩
        unfold tYes
        dsimp only
        rw [if_pos rfl]
        refine ⟨_, rfl, _, rfl, _, rfl, dd, _, rfl, .inl ⟨kvs, .inl _, .inl ((s35.trans s6) _ _ hdk), rfl, hv1.symm⟩, p1, _, 0, _, rfl, rfl, (same_tx (s35.trans s6)).t hh, atI_nat (j := 0) rfl, ?_⟩
        have lc : cv.length ≤ 100 := by
          rw [pd_len pc, List.length_take]
          omega
        refine ⟨cv, Sum.inl ((n : Nat) : Int), rfl, hcv, Nat.lt_of_le_of_lt lc (small1000 (by omega)), same_mut s6 nC, _, upd_same, ?_⟩
        rw [take_snoc he]
        have ndc : (((takes (tab c i)).take j).map (·.1)).Nodup := List.Nodup.sublist ((List.take_sublist j (takes (tab c i))).map (·.1)) ndt
        have hout : dget ((takes (tab c i)).take j) n = none := by
          refine dget_none fun x hx e => ?_
          have nd2 : (((takes (tab c i)).take (j + 1)).map (·.1)).Nodup := List.Nodup.sublist ((List.take_sublist (j + 1) (takes (tab c i))).map (·.1)) ndt
          rw [take_snoc he, List.map_append] at nd2
          have := (List.nodup_append.mp nd2).2.2 x.1 (List.mem_map.mpr ⟨x, hx, rfl⟩) n (by simp)
          exact this e
        have := pd_put (R := IsI) (k := n) (v := .int v) (a := v) ndc pc rfl
        rw [dput_out hout] at this
        exact this
      · obtain ⟨s6, cv, hcv, pc⟩ := p
        rw [List.length_map, List.length_map, List.take_length] at pc
        have hB6 := (s4.trans s6) _ _ hB3
        have hCB : C ≠ B := ne_of hcv hB6 (fun z => nomatch z)
        have n4C : H4 C = none := s4.free nC
        refine ⟨_, hB6, Nat.lt_of_le_of_lt (show _ ≤ 1000 by rw [List.length_map]; omega) (small1000 (Nat.le_refl _)), same_mut (s35.trans s6) nB, es ++ [C], ?_, by rw [List.length_append, hel]; rfl, ?_, fun e he => ?_, fun j e hj => ?_⟩
        · rw [upd_same, List.map_append]
          rfl
        · refine List.nodup_append.mpr ⟨end_, by simp, fun x hx y hy e => ?_⟩
          rw [List.mem_singleton.mp hy] at e
          subst e
          exact (hef x hx).1 n4C
        · rcases List.mem_append.mp he with h | h
          · obtain ⟨g1, g2⟩ := hef e h
            refine ⟨fun z => ?_, g2⟩
            rw [upd_ne g2] at z
            cases hh : H4 e with
            | none => exact g1 hh
            | some ob => rw [(s4.trans s6) _ _ hh] at z; cases z
          · rw [List.mem_singleton.mp h]
            refine ⟨fun z => ?_, hCB⟩
            rw [upd_ne hCB, hcv] at z
            cases z
        · by_cases hjl : j < es.length
          · rw [List.getElem?_append_left hjl] at hj
            obtain ⟨d', kv', e1, hd', pd'⟩ := (hea j e hj).same (s4.trans s6)
            cases e1
            exact ⟨e, kv', rfl, by rw [upd_ne (hef e (List.mem_of_getElem? hj)).2]; exact hd', pd'⟩
          · have hj2 := (List.getElem?_eq_some_iff.mp hj).1
            rw [List.length_append] at hj2
            have hj2 : j < es.length + 1 := hj2
            have e2 : j = es.length := by omega
            subst e2
            rw [List.getElem?_append_right (Nat.le_refl _), Nat.sub_self] at hj
            have hj : C = e := Option.some.inj hj
            subst hj
            rw [hel]
            exact ⟨C, cv, rfl, by rw [upd_ne hCB]; exact hcv, pc⟩
    · obtain ⟨s3, es, hB3, hel, end_, hef, hea⟩ := p
      rw [List.length_map] at hel
      exact q B es H3 (s1.trans (s2.trans s3)) (by omega) ⟨hB3, end_, hea⟩
end
end Oa
namespace Oa
open PySem PySem.Spec PyProof.Rows L2
/-! ### fields, methods, new instances -/
section
variable {X : Cx}
/-- xs[i] read for xs[i] op= e -/
def rIxN (K : PySem.W.Frag) : V → V → Hp → VK → Prop := fun x y H Q => ∃ p xs, ∃ (i : Nat), ∃ v, x = .ref p ∧ y = .int (i : Int) ∧ SqL K H p xs ∧ xs[i]? = some v ∧ Q v H
theorem getL (K : PySem.W.Frag) (hK : X.K = K := by rfl) : PGet X (rIxN K) := by
  subst hK
  intro pins s σ H x y v u Q I rx ry h
  obtain ⟨p, xs, i, z, rfl, rfl, hq, he, q⟩ := h
  cases rx
  obtain ⟨t, rfl⟩ := ry
  obtain ⟨its, r, pl, hz⟩ := I.list hq
  obtain ⟨w, ew, rw'⟩ := r.get he
  have hl := r.length
  have hn := line63
  have hi : i < xs.length := (List.getElem?_eq_some_iff.mp he).1
  exact wpAny_getItem_list pl.isList (by omega) (by omega) (by simpa using ew) ⟨z, H, I, rw', q⟩
theorem pfld (K : PySem.W.Frag) {e : Expr} {f : Str} {ta : TE} {pos : Pos} (he : PE X e ta) (hK : X.K = K := by rfl) (hb : attributeBase e f X.env (eval e X.env) = eval e X.env := by rfl) : PE X (.Attribute e f pos) (tFld K ta f) := by
  subst hK
  exact pe_fld he hb
theorem sfld (K : PySem.W.Frag) {o value : Expr} {f : Str} {ta tv : TE} {pos pos' : Pos} (ha : PE X o ta) (hv : PE X value tv) (hK : X.K = K := by rfl) (hs : swapsWith value (some (.Attribute o f pos')) pos.line X.env = pure false := by rfl) : PS X (.Assign [.Attribute o f pos'] value pos) (sFld K ta tv f) := by
  subst hK
  exact ps_fld ha hv hs
theorem sfldA (K : PySem.W.Frag) {op : Operator} {rd : V → V → Hp → VK → Prop} {o value : Expr} {f : Str} {ta tv : TE} {pos tpos : Pos} (ha : PE X o ta) (hv : PE X value tv) (hop : InOp X op rd) (hK : X.K = K := by rfl) : PS X (.AugAssign (.Attribute o f tpos) op value pos) (sFldAug K ta tv rd f) := by
  subst hK
  exact ps_fldaug ha hv hop
end
section
variable (P : Program) (w : World) (K : PySem.W.Frag) (mg : Str → Option Value) (base : Heap)
def CalM (CX : CXT) (k : Nat) (cls m : Str) (ps : List Str) (sp : Sp) : Prop := ∃ fd, Binds K fd ps [] ∧ FnOk P w K mg base CX k (He.ma K (He.ga K cls) m) fd ps sp
end
section
variable {P : Program} {w : World} {K : PySem.W.Frag} {mg : Str → Option Value} {base : Heap}
theorem CalM.mono {CX : CXT} {j k : Nat} {cls m : Str} {ps : List Str} {sp : Sp} (c : CalM P w K mg base CX j cls m ps sp) (h : j ≤ k) : CalM P w K mg base CX k cls m ps sp := by
  obtain ⟨fd, b, F⟩ := c
  exact ⟨fd, b, F.mono h⟩
theorem calM {cls m q : Str} {st : Stmt} {N ps : List Str} {k : Nat} {sp : Sp} (D : ∃ fd, FunD K m q (defArgs st) (defBody st) (defScope st) [] [] (He.ma K (He.ga K cls) m) fd) (S : FnScope N ps (defScope st))
    (bnd : ∀ (kV doc pm : Value) (an : Option Addr) (cdv ct : Value) (us : List Value), us.length = ps.length → bindArgs (PySem.W.fnOf m q (defArgs st) (defBody st) (defScope st) .none kV doc pm an cdv ct) ⟨us, []⟩ = pure (ps.zip us))
    (len : ∀ vs H Q E, sp vs H Q E → vs.length = ps.length)
    (hbody : ∀ (f : Addr) (cdv : Value) (A : Around) (outer : List Env) (s : Shared) (H : Hp) (vs : List V) (Q : VK) (E : XK), Room k (A.deeper (envOfC q (defScope st) s.heap.objs.size f cdv)) → sp vs H Q E →
      ∃ t, PSs (cxOf CX0 P w K mg base N q (defScope st) f cdv A outer s H E).nox (defBody st) t ∧ t { nx := fun _ H' => Q .non H', rt := Q } (start N vs) H) : CalM P w K mg base CX0 (k + 1) cls m ps sp := by
  obtain ⟨fd, F⟩ := D
  refine ⟨fd, F.bindsN bnd, F.ok S len fun cdv A outer s H vs Q E hr h => ?_⟩
  obtain ⟨t, h1, h2⟩ := hbody _ cdv A outer s H vs Q E hr h
  exact ⟨t, h1.nox, h2⟩
/-- a method that may raise -/
theorem calMX {CX : CXT} {cls m q : Str} {st : Stmt} {N ps : List Str} {k : Nat} {sp : Sp} (D : ∃ fd, FunD K m q (defArgs st) (defBody st) (defScope st) [] [] (He.ma K (He.ga K cls) m) fd) (S : FnScope N ps (defScope st))
    (bnd : ∀ (kV doc pm : Value) (an : Option Addr) (cdv ct : Value) (us : List Value), us.length = ps.length → bindArgs (PySem.W.fnOf m q (defArgs st) (defBody st) (defScope st) .none kV doc pm an cdv ct) ⟨us, []⟩ = pure (ps.zip us))
    (len : ∀ vs H Q E, sp vs H Q E → vs.length = ps.length)
    (hbody : ∀ (f : Addr) (cdv : Value) (A : Around) (outer : List Env) (s : Shared) (H : Hp) (vs : List V) (Q : VK) (E : XK), Room k (A.deeper (envOfC q (defScope st) s.heap.objs.size f cdv)) → sp vs H Q E →
      ∃ t, PSs (cxOf CX P w K mg base N q (defScope st) f cdv A outer s H E) (defBody st) t ∧ t { nx := fun _ H' => Q .non H', rt := Q } (start N vs) H) : CalM P w K mg base CX (k + 1) cls m ps sp := by
  obtain ⟨fd, F⟩ := D
  exact ⟨fd, F.bindsN bnd, F.ok S len fun cdv A outer s H vs Q E hr h => hbody _ cdv A outer s H vs Q E hr h⟩
end
section
variable {X : Cx} {CX : CXT} {k : Nat} {x cls m : Str} {ps : List Str} {sp : Sp} {o e : Expr} {es : List Expr} {ta : TE} {t : TA} {p apos pos : Pos} {E : XK}
/-- o.m(e, ..) -/
theorem pmeth {pl : Sem Bool} (c : CalM X.prog X.w X.K X.mg X.base CX0 k cls m ps sp) (cl : Cls X.K (He.ga X.K cls)) (me : Meth X.K (He.ga X.K cls) m (He.ma X.K (He.ga X.K cls) m)) (hr : Room k X.A) (he : PE X o ta) (ha : PA X (e :: es) t)
    (hst : starEach (e :: es) X.env = (false, eval e X.env) :: starEach es X.env := by rfl) (hpl : (backTo pos (starEach es X.env)).any (·.1) = false := by rfl)
    (ht : eval (.Call (.Attribute o m apos) (e :: es) [] pos) X.env = (do
      let ov ← eval o X.env
      standAt apos.atName
      let (f, first) ← holding [ov] (getMethod ov m pl)
      callWith pos f first (backTo pos (starEach (e :: es) X.env)) (backToKw pos (keywordEach [] X.env))) := by rfl) :
    PE X (.Call (.Attribute o m apos) (e :: es) [] pos) (tMeth (He.ga X.K cls) m sp [] E0 ta t) := by
  obtain ⟨fd, b, F⟩ := c
  exact pe_meth he cl me F hr b .nil pass0 ha hst hpl ht
theorem pmeth0 {pl : Sem Bool} (c : CalM X.prog X.w X.K X.mg X.base CX0 k cls m ps sp) (cl : Cls X.K (He.ga X.K cls)) (me : Meth X.K (He.ga X.K cls) m (He.ma X.K (He.ga X.K cls) m)) (hr : Room k X.A) (he : PE X o ta)
    (ht : eval (.Call (.Attribute o m apos) [] [] pos) X.env = (do
      let ov ← eval o X.env
      standAt apos.atName
      let (f, first) ← holding [ov] (getMethod ov m pl)
      callWith pos f first (backTo pos (starEach [] X.env)) (backToKw pos (keywordEach [] X.env))) := by rfl) :
    PE X (.Call (.Attribute o m apos) [] [] pos) (tMeth (He.ga X.K cls) m sp [] E0 ta tNil) := by
  obtain ⟨fd, b, F⟩ := c
  exact pe_meth0 he cl me F hr b .nil pass0 ht
/-- C(e, ..) -/
theorem pmake (c : CalM X.prog X.w X.K X.mg X.base CX0 k cls "__init__" ps sp) (M : Mk X.K (He.ga X.K cls) (He.ma X.K (He.ga X.K cls) "__init__")) (hm : X.mg cls = some (.ref (He.ga X.K cls))) (hr : Room (k + 1) X.A) (ha : PA X (e :: es) t) (hg : Gl X cls := by rfl)
    (hdb : (cls == ("__debug__" : Str)) = false := by decide) (he : starEach (e :: es) X.env = (false, eval e X.env) :: starEach es X.env := by rfl) (hpl : (backTo pos (starEach es X.env)).any (·.1) = false := by rfl) :
    PE X (.Call (.Name cls p) (e :: es) [] pos) (tMake (He.ga X.K cls) sp [] E0 t) := by
  obtain ⟨fd, b, F⟩ := c
  exact pe_make M F hr hg hm b .nil pass0 ha hdb he hpl
end
/-! ### an error with a field -/
def oexB (K : PySem.W.Frag) (C : Addr) : Bool := match K.lookup C with
  | some ⟨.type "type", _, .cls cd, sl⟩ => (match cd.mro, sl.toList with
    | .ref C' :: bm, [_, _, _, _, some (.builtin n), _] => C' == C && n == "ValueError.__new__" && !cd.hasDel && cd.hasDict && PySem.HandSPX.refsVE bm
    | _, _ => false)
  | _ => false
theorem oexB_ok {K : PySem.W.Frag} {C : Addr} (q : oexB K C = true) : ∃ nm q N bs bm sn sub ab col dd k0 k1 k2 k3 k5, K.lookup C = some (excClassObj nm q C N bs bm true sn sub ab col dd k0 k1 k2 k3 k5 "ValueError.__new__") ∧ PySem.HandSPX.refsVE bm = true := by
  unfold oexB at q
  split at q
  · rename_i dd cd sl ho
    split at q
    · rename_i C' bm k0 k1 k2 k3 n k5 hm hs
      simp only [Bool.and_eq_true, beq_iff_eq, Bool.not_eq_true'] at q
      obtain ⟨⟨⟨⟨rfl, rfl⟩, hdel⟩, hdi⟩, ht⟩ := q
      obtain ⟨nm, bs, mro, ns, qn, hd, sn, sub, ab, col, del⟩ := cd
      dsimp only at hm hdel hdi
      subst hm hdel hdi
      have hsl : sl = #[k0, k1, k2, k3, some (.builtin "ValueError.__new__"), k5] := by
        obtain ⟨l⟩ := sl
        simp only at hs
        rw [hs]
      subst hsl
      exact ⟨nm, qn, ns, bs, bm, sn, sub, ab, col, dd, k0, k1, k2, k3, k5, ho, ht⟩
    · cases q
  · cases q
def isVal (o : Option PySem.W.CFound) (v : Value) : Bool := match o with
  | some (.val u) => decide (u = v)
  | _ => false
theorem isVal_ok {o : Option PySem.W.CFound} {v : Value} (h : isVal o v = true) : o = some (.val v) := by
  unfold isVal at h
  split at h
  · rw [of_decide_eq_true h]
  · cases h
/-- what the written part says of BadPlan -/
structure PlanE (K : PySem.W.Frag) (mg : Str → Option Value) : Prop where
  g : mg "BadPlan" = some (.ref (He.ga K "BadPlan"))
  go : mg "OatError" = some (.ref (He.ga K "OatError"))
  ox : OexC K (He.ga K "BadPlan")
  xf : XfC K (He.ga K "BadPlan")
  ini : PySem.W.findIn K (.ref (He.ga K "BadPlan")) "__init__" = some (some (.ref (He.ma K (He.ga K "BadPlan") "__init__")))
  ity : PySem.W.typeIn K (.ref (He.ma K (He.ga K "BadPlan") "__init__")) = some (.type "function")
  num : PySem.W.findIn K (.ref (He.ga K "BadPlan")) "number" = some none
  self : PySem.W.exmOne K (.ref (He.ga K "BadPlan")) (.ref (He.ga K "BadPlan")) = some true
  oga : PySem.W.specialIn K (.ref (He.ga K "OatError")) "__getattribute__" = some (some (.builtin "type.__getattribute__"))
  ord : PySem.W.readsIn K (He.ga K "OatError") (.type "type") = true
  oin : PySem.W.findCls K (.ref (He.ga K "OatError")) (.type "type") "__init__" = some (.val (.builtin "ValueError.__init__"))
def planB (K : PySem.W.Frag) : Bool :=
  oexB K (He.ga K "BadPlan") && (decide (PySem.W.findIn K (.ref (He.ga K "BadPlan")) "__setattr__" = some (some (.builtin "object.__setattr__"))) && (decide (PySem.W.typeIn K (.ref (He.ga K "BadPlan")) = some (.type "type")) && (PySem.W.keepIn K (.ref (He.ga K "BadPlan")) &&
  (xfB K (He.ga K "BadPlan") && (decide (PySem.W.findIn K (.ref (He.ga K "BadPlan")) "__init__" = some (some (.ref (He.ma K (He.ga K "BadPlan") "__init__")))) && (decide (PySem.W.typeIn K (.ref (He.ma K (He.ga K "BadPlan") "__init__")) = some (.type "function")) &&
  (decide (PySem.W.findIn K (.ref (He.ga K "BadPlan")) "number" = some none) && (decide (PySem.W.exmOne K (.ref (He.ga K "BadPlan")) (.ref (He.ga K "BadPlan")) = some true) && (decide (PySem.W.specialIn K (.ref (He.ga K "OatError")) "__getattribute__" = some (some (.builtin "type.__getattribute__"))) &&
  (PySem.W.readsIn K (He.ga K "OatError") (.type "type") && isVal (PySem.W.findCls K (.ref (He.ga K "OatError")) (.type "type") "__init__") (.builtin "ValueError.__init__")))))))))))
theorem planE_of {K : PySem.W.Frag} {mg : Str → Option Value} (h : planB K = true) (g : mg "BadPlan" = some (.ref (He.ga K "BadPlan"))) (go : mg "OatError" = some (.ref (He.ga K "OatError"))) : PlanE K mg := by
  unfold planB at h
  obtain ⟨k1, h⟩ := He.ba h
  obtain ⟨k2, h⟩ := He.ba h
  obtain ⟨k3, h⟩ := He.ba h
  obtain ⟨k4, h⟩ := He.ba h
  obtain ⟨k5, h⟩ := He.ba h
  obtain ⟨k6, h⟩ := He.ba h
  obtain ⟨k7, h⟩ := He.ba h
  obtain ⟨k8, h⟩ := He.ba h
  obtain ⟨k9, h⟩ := He.ba h
  obtain ⟨k10, h⟩ := He.ba h
  obtain ⟨k11, k12⟩ := He.ba h
  have xf := xfB_ok k5
  exact ⟨g, go, ⟨oexB_ok k1, of_decide_eq_true k2, xf.exC, of_decide_eq_true k3, k4⟩, xf, of_decide_eq_true k6, of_decide_eq_true k7, of_decide_eq_true k8, of_decide_eq_true k9, of_decide_eq_true k10, k11, isVal_ok k12⟩
section
variable {X : Cx} {e : Expr} {es : List Expr} {ta : TA} {p1 p2 pos : Pos} {x : Str} {C : Addr}
/-- C.__init__(self, ..), C a class of the program over ValueError without an __init__ of its own -/
theorem pclsinit (K : PySem.W.Frag) {pl : Sem Bool} (hm : X.mg x = some (.ref C)) (hga : PySem.W.specialIn K (.ref C) "__getattribute__" = some (some (.builtin "type.__getattribute__"))) (hrd : PySem.W.readsIn K C (.type "type") = true)
    (vV : PySem.W.findCls K (.ref C) (.type "type") "__init__" = some (.val (.builtin "ValueError.__init__"))) (ha : PA X (e :: es) ta) (hg : Gl X x := by rfl) (hK : X.K = K := by rfl)
    (hdb : (x == ("__debug__" : Str)) = false := by decide)
    (hc : eval (.Call (.Attribute (.Name x p1) "__init__" p2) (e :: es) [] pos) X.env = (do
      let ov ← eval (.Name x p1) X.env
      standAt p2.atName
      let (f, first) ← holding [ov] (getMethod ov "__init__" pl)
      callWith pos f first (backTo pos (starEach (e :: es) X.env)) (backToKw pos (keywordEach [] X.env))) := by rfl)
    (he : starEach (e :: es) X.env = (false, eval e X.env) :: starEach es X.env := by rfl) (hpl : (backTo pos (starEach es X.env)).any (·.1) = false := by rfl) :
    PE X (.Call (.Attribute (.Name x p1) "__init__" p2) (e :: es) [] pos) (tVeI K ta) := by
  subst hK
  refine ⟨fun pins s σ H Q I h => ?_⟩
  refine PySem.W.methodCall_KW (ld_glob I hg hm ?_ hdb) hc
  refine PySem.W.method_cls I.kIn hga (PySem.W.cls_value I.kIn hrd vV (by decide +kernel) ?_)
  show wpAny _ _ (callWith pos (Value.builtin "ValueError.__init__") [] (backTo pos (starEach (e :: es) X.env)) []) _ _ _
  refine PyProof.Rows.callWith_method1 (thn (ha.run pos pins _ σ H _ (I.tok _) h) fun us s1 ⟨vs, H1, I1, r1, a, C', ws, ev, hl, T, ea, q⟩ => ?_) he hpl
  subst ev
  cases r1 with
  | @cons _ u0 _ ur ra rw' =>
    obtain rfl : u0 = Value.ref a := ra
    have hlen : ur.length ≤ sizeLine := by
      rw [← Paired.length rw', sizeLine_eq]
      omega
    exact oinit_ok T I1 ea hlen fun s' J => ⟨.non, H1, J, rfl, q⟩
end
end Oa
namespace PySem
open PySem PySem.Spec
/-! ### enumerate(tuple) -/
theorem meets_enum1 {v : Value} {o : Obj} {H : Heap → Prop} (B : Begins v o H) :
    Meets (Builtin.«enumerate.__new__» ⟨[.type "enumerate", v], []⟩) (fun _ R s => H s.heap ∧
      R (.ok (.ret (.ref (s.heap.push o).objs.size))) { s with heap := (s.heap.push o).push { cls := .type "enumerate", data := .fields #[.none, .bool false, .ref s.heap.objs.size, rawInt 0, .none, .none] } }) :=
  .of_wp fun prog w A R s h => by
    obtain ⟨hp, g, d, tk, os⟩ := s; obtain ⟨h1, h⟩ := h
    have hsub := sub_enumerate
    have q1 : ∀ {A' : Around} {E : Value → Shared → Prop} {Q : Value → Shared → Prop}, Q (.ref hp.objs.size) ⟨hp.push o, g, d, tk, os⟩ → wpAny (model prog w) A' (pyIter v) Q E ⟨hp, g, d, tk, os⟩ :=
      fun q => B.iter prog w _ _ ⟨hp, g, d, tk, os⟩ _ h1 q
    wp_walk using q1
    refine wpAny_stack_any fun st => wpAny_pure ?_
    split
    · rename_i c _ _ _ _ _
      cases (c == Value.type "enumerate")
      · wp_walk using q1
        exact ⟨_, rfl, h⟩
      · wp_walk using q1
        exact ⟨_, rfl, h⟩
    · wp_walk using q1
      exact ⟨_, rfl, h⟩
section
variable {prog : Program} {w : World} {A : Around} {E : Value → Shared → Prop} {s : Shared}
theorem enum_begins1 {v : Value} {o : Obj} {H : Heap → Prop} {Q : Value → Shared → Prop} (B : Begins v o H) (h1 : H s.heap)
    (h : ∀ h', IsEnum h' (s.heap.objs.size + 1) s.heap.objs.size 0 .none → h'.get? s.heap.objs.size = some o → h'.objs.size = s.heap.objs.size + 2 →
      (∀ b o, s.heap.get? b = some o → h'.get? b = some o) → Q (.ref (s.heap.objs.size + 1)) { s with heap := h' }) :
    wpAny (model prog w) A (call (.type "enumerate") [v]) Q E s := by
  refine callType_new F.called_enumerate (by decide) (F.typeCall_enumerate_1 _) (F.newCall_enumerate_1 _) (fun obj => F.args_object_init_2 obj _) F.entry_enumerate_new
    (meets_enum1 B) ⟨h1, ?_⟩
  have hz : (s.heap.push o).objs.size = s.heap.objs.size + 1 := Heap.size_push ..
  show _ ∧ _
  rw [hz]
  have he : IsEnum ((s.heap.push o).push { cls := .type "enumerate", data := .fields #[.none, .bool false, .ref s.heap.objs.size, rawInt 0, .none, .none] }) (s.heap.objs.size + 1) s.heap.objs.size 0 .none := by
    have := Heap.get?_push_size (s.heap.push o) (o := { cls := .type "enumerate", data := .fields #[.none, .bool false, .ref s.heap.objs.size, rawInt 0, .none, .none] }) rfl
    rw [hz] at this; exact this
  refine ⟨⟨_, he, rfl⟩, h _ he (Heap.get?_push_of_some _ (Heap.get?_push_size _ B.free)) (by rw [Heap.size_push, hz]) fun b o x => Heap.get?_push_of_some _ (Heap.get?_push_of_some _ x)⟩
end
end PySem
namespace L2
open PySem PySem.Spec PyProof.Rows
def ItEt (K : PySem.W.Frag) (a : Addr) : It :=
  ⟨fun i H => ∃ (xs : List V) (x : V), SqT K H a xs ∧ xs[i]? = some x, fun i H v H' => ∃ T x, v = .ref T ∧ H T = none ∧ H' = upd H T (.tup [.int (i : Nat), x]) ∧ ∀ xs, SqT K H a xs → xs[i]? = some x, fun i H => ∃ xs : List V, SqT K H a xs ∧ xs.length = i⟩
theorem turn_enumT {P : Program} {w : World} {K : PySem.W.Frag} {elts : List Expr} {kk : Nat} {tpos : Pos} (a e it : Addr) :
    Turn P w K (.Tuple elts kk tpos) (ItEt K a) [e, it] e (fun i h => (∃ old, IsEnum h e it ((i : Nat) : Int) old) ∧ h.IsTupleIter it a i ∧ e ≠ it) where
  mem := by simp
  obj := fun i h st b hb => by
    obtain ⟨⟨old, he⟩, ⟨o, ho, hc, hd⟩, _⟩ := st
    have e' : b = e ∨ b = it := by simpa using hb
    rcases e' with z | z
    · rw [z]; exact ⟨_, he, fun v q => nomatch q⟩
    · rw [z]; exact ⟨o, ho, fun v q => by rw [hd] at q; cases q⟩
  keep := fun i h h' st k => let ⟨⟨old, he⟩, hi, hne⟩ := st; ⟨⟨old, k e (by simp) _ he⟩, hi.at fun o q => k it (by simp) o q, hne⟩
  item := by
    intro X hP hw hK hc i pins s σ H E I hf st hg
    subst hP hw hK
    obtain ⟨⟨old, he⟩, hit, hne⟩ := st
    obtain ⟨xs, x, hq, hx⟩ := hg
    obtain ⟨its, rv, p, hz⟩ := I.tuple hq
    obtain ⟨u, hu, ru⟩ := rv.get hx
    have hel : e < s.heap.objs.size := Heap.lt_size he
    have hil : it < s.heap.objs.size := by obtain ⟨_, q, _⟩ := hit; exact Heap.lt_size q
    have hae : e ≠ a := fun z => by
      obtain ⟨o, ho, hc, _⟩ := p
      rw [← z] at ho
      rw [show s.heap.get? e = _ from he] at ho
      cases ho
      injection hc with hc
      exact absurd hc (by decide)
    have hai : a ≠ it := fun z => by
      obtain ⟨o, ho, hc, _⟩ := p
      obtain ⟨o2, ho2, hc2, _⟩ := hit
      rw [z, ho2] at ho
      cases ho
      rw [hc2] at hc
      injection hc with hc
      exact absurd hc (by decide)
    refine wpAny_pyNext_enum_itemC (Draws.tuple (show X.A.in1.handled = none from I.ok.hd hc) it a hai its.toArray) he ⟨hit, p⟩ (i := i) (by rw [List.size_toArray]; exact (List.getElem?_eq_some_iff.mp hu).1) hne (by simp [hne, hae]) fun y h' tk hP ho hst' hT hsz hk => ?_
    obtain ⟨hit', _⟩ := hst'
    have hy : y = u := by
      have hu' : its.toArray[i]? = some u := by simpa using hu
      rw [hu'] at hP
      exact (Option.some.inj hP).symm
    subst hy
    refine ⟨_, rfl, wpAny_letOwnedTupleGo_enum (s := { s with heap := h', toks := tk + 1 }) ho fun h'' he' sb => ?_⟩
    have hT2 : h''.get? s.heap.objs.size = some { cls := .type "tuple", data := .seq #[.int i tk, y] } := (sb.2 _ (Nat.ne_of_gt hel)).trans hT
    have new : ObjOk X.prog X.w (upd H s.heap.objs.size (.tup [.int (i : Nat), x])) h'' s.heap.objs.size (.tup [.int (i : Nat), x]) :=
      ⟨by show 2 ≤ sizeLine; decide, [.int i tk, y], .cons ⟨_, rfl⟩ (.cons ru .nil), ⟨_, hT2, rfl, _, rfl⟩⟩
    have I1 : Inv X pins σ (upd H s.heap.objs.size (.tup [.int (i : Nat), x])) { s with heap := h'', toks := tk + 1 } :=
      I.turnedNew (ch := [e, it]) (fun b ob hb q => (sb.2 b (fun z => hb (by simp [z]))).trans (hk b ob (fun z => hb (by simp [z])) (fun z => hb (by simp [z])) q)) hf (Nat.le_refl _) new
    refine ⟨.ref s.heap.objs.size, _, I1, rfl, ⟨_, x, rfl, I.hok.fresh (Nat.le_refl _), rfl, fun ys hy => by rw [I.tuple_inj hy hq]; exact hx⟩, ⟨⟨y, ?_⟩, hit'.at fun o q => (sb.2 it (Ne.symm hne)).trans q, hne⟩, fun b hb => ?_⟩
    · have e1 : ((i + 1 : Nat) : Int) = (i : Int) + 1 := by omega
      rw [e1]; exact he'
    · have hb' : b < s.heap.objs.size := by
        have e' : b = e ∨ b = it := by simpa using hb
        rcases e' with z | z
        · rw [z]; exact hel
        · rw [z]; exact hil
      rw [upd_ne (Nat.ne_of_lt hb')]
      exact (hf b hb).1
  done := by
    intro X hP hw hK hc i pins s σ H E I hf st hg
    subst hP hw hK
    obtain ⟨⟨old, he⟩, hit, hne⟩ := st
    obtain ⟨xs, hq, hx⟩ := hg
    obtain ⟨its, rv, p, hz⟩ := I.tuple hq
    obtain ⟨f0, f1, f2, f3, f4, f5⟩ := hf it (by simp)
    have hl := rv.length
    have hai : a ≠ it := fun z => by
      obtain ⟨o, ho, hc, _⟩ := p
      obtain ⟨o2, ho2, hc2, _⟩ := hit
      rw [z, ho2] at ho
      cases ho
      rw [hc2] at hc
      injection hc with hc
      exact absurd hc (by decide)
    have hn : its.toArray.size = i := by rw [List.size_toArray]; omega
    exact wpAny_pyNext_enum_endD (Draws.tuple (show X.A.in1.handled = none from I.ok.hd hc) it a hai its.toArray) he (by rw [hn]; exact ⟨hit, p⟩) fun h' eb => ⟨rfl, I.turned (t' := s.toks) (fun b o hb q => eb b o hb q) f0 f1 f3 f4 f5⟩
  self := fun A i s Q E st h => let ⟨⟨_, he⟩, _⟩ := st; wpAny_pyIter_enum he h
def iEnumT (K : PySem.W.Frag) (ta : TA) : TI := fun σ H R => ta σ H fun vs H1 => ∃ a xs, vs = [.ref a] ∧ SqT K H1 a xs ∧ R (ItEt K a) H1
theorem pi_enumT {X : Cx} (K : PySem.W.Frag) {e : Expr} {ta : TA} {p pos tpos : Pos} {elts : List Expr} {kk : Nat} (hg : Gl X "enumerate") (hm : X.mg "enumerate" = none) (ha : PA X [e] ta) (hK : X.K = K := by rfl) (hs : starEach [e] X.env = [(false, eval e X.env)] := by rfl) :
    PI X (.Tuple elts kk tpos) (.Call (.Name "enumerate" p) [e] [] pos) (iEnumT K ta) := by
  subst hK
  refine ⟨fun pins s σ H R I h => ?_⟩
  refine Call_ (ld_blt I hg hm boot_enumerate (PyProof.Rows.callWith_type1 (thn (ha.run pos pins s σ H _ I h) fun us s1 ⟨vs, H1, I1, r1, q1⟩ => ?_) hs rfl))
  obtain ⟨a, xs, ex, hq, q⟩ := q1
  subst ex
  cases r1 with
  | cons r rr =>
    cases rr
    cases r
    obtain ⟨its, rv, p', hz⟩ := I1.tuple hq
    refine enum_begins1 (begins_tuple a its.toArray) p' fun h' he hit hsz hk => wpAny_pyIter_enum he ?_
    have I2 : Inv X pins σ H1 { s1 with heap := h' } := I1.kept (t' := s1.toks) hk
    refine ⟨s1.heap.objs.size + 1, [s1.heap.objs.size + 1, s1.heap.objs.size], _, _, H1, rfl, I2, turn_enumT a (s1.heap.objs.size + 1) s1.heap.objs.size, ⟨⟨.none, he⟩, ⟨_, hit, rfl, rfl⟩, Nat.succ_ne_self _⟩, fun b hb => ?_, q⟩
    have e' : b = s1.heap.objs.size + 1 ∨ b = s1.heap.objs.size := by simpa using hb
    have hle : s1.heap.objs.size ≤ b := by
      rcases e' with z | z
      · rw [z]; exact Nat.le_add_right _ _
      · rw [z]; exact Nat.le_refl _
    exact I1.fpOk hle (I1.hok.fresh hle)
theorem walk_enumT {K : PySem.W.Frag} {a : Addr} {xs : List V} : Walk (ItEt K a) xs.length (fun H => SqT K H a xs) (YPair (fun i => some (.int (i : Nat))) (fun i => xs[i]?)) where
  goes := fun i H hi g => ⟨xs, xs[i], g, List.getElem?_eq_getElem hi⟩
  stops := fun H g => ⟨xs, g, rfl⟩
  yields := fun i H v H' hi g y => by
    obtain ⟨T, x, rfl, hn, rfl, hx⟩ := y
    exact ⟨T, _, x, rfl, hn, rfl, rfl, hx xs g⟩
end L2
namespace Oa
open PySem PySem.Spec PyProof.Rows L2
/-! ### the head's facts, the table of statics among them -/
def asY (g : Addr → Option Obj) (n : Nat) : List Addr := He.asD g n ++ [cStatics]
abbrev AlY : Type := He.AlD × Bool
def frY (g : Addr → Option Obj) (n : Nat) : PySem.W.Frag := He.frT g (asY g n)
def obsY (n : Nat) (fa : List He.Fa) (fn : List He.DefD) (ex : PySem.W.Frag → Bool) (g : Addr → Option Obj) : AlY := (He.obsD fa fn (frY g n), ex (frY g n))
def hookY (n : Nat) (fa : List He.Fa) (fn : List He.DefD) (ex : PySem.W.Frag → Bool) : PySem.W.Hook where
  α := AlY
  obs := fun s => obsY n fa fn ex s.heap.get?
  val := fun _ => (He.valD fn, true)
  says := fun _ h => ∃ K : PySem.W.Frag, K.In h ∧ He.SaysD fa fn K ∧ ex K = true
  of := fun _ _ e => ⟨_, He.frT_in, congrArg (fun z : AlY => z.1) e, congrArg (fun z : AlY => z.2) e⟩
  keeps := fun _ _ _ ⟨K, hK, c⟩ k => ⟨K, PySem.W.Frag.In.keeps hK k, c⟩
theorem obsY_eq {n : Nat} {fa : List He.Fa} {fn : List He.DefD} {ex : PySem.W.Frag → Bool} {g : Addr → Option Obj} {s : Shared} (h : ∀ a, g a = s.heap.get? a) : obsY n fa fn ex g = (hookY n fa fn ex).obs s := by
  have e : g = s.heap.get? := funext h
  rw [e] <;> rfl
end Oa
namespace Oat
/-! ### plans: deeds, standings -/
inductive DW where
  | go | take | lay
  deriving DecidableEq
structure Deed where
  w : DW
  c : Nat
  x : Nat
structure Stand where
  spots : List Nat
  loads : List Nat
  stores : List Nat
  taken : Int
  seen : List Nat
  outs : List Nat
  backs : List Nat
def stand0 (n carts : Nat) : Stand := ⟨List.replicate carts 0, List.replicate carts 0, List.replicate n 0, 0, [0], List.replicate n 0, List.replicate n 0⟩
def isOut (L : List Nat) (p q : Nat) : Bool := decide (1 ≤ q) && (decide (q ≤ L.length) && decide (L.getD (q - 1) 0 = p))
def isBack (L : List Nat) (p q : Nat) : Bool := decide (1 ≤ p) && decide (L.getD (p - 1) 0 = q)
def addAt (l : List Nat) (i k : Nat) : List Nat := l.set i (l.getD i 0 + k)
def deedF (L : List Nat) (room : Nat) (s : Stand) (d : Deed) : Option Stand :=
  match d.w with
  | .go =>
    if (isOut L (s.spots.getD d.c 0) d.x || isBack L (s.spots.getD d.c 0) d.x) = true ∧ s.loads.getD d.c 0 ≠ 0 then
      some { s with
        loads := s.loads.set d.c (s.loads.getD d.c 0 - 1), spots := s.spots.set d.c d.x, seen := s.seen ++ [d.x]
        outs := if isOut L (s.spots.getD d.c 0) d.x = true then addAt s.outs d.x 1 else s.outs
        backs := if isOut L (s.spots.getD d.c 0) d.x = true then s.backs else addAt s.backs (s.spots.getD d.c 0) 1 }
    else none
  | .take =>
    if 1 ≤ d.x ∧ s.loads.getD d.c 0 + d.x ≤ room ∧ (s.spots.getD d.c 0 = 0 ∨ d.x ≤ s.stores.getD (s.spots.getD d.c 0) 0) then
      some { s with
        loads := s.loads.set d.c (s.loads.getD d.c 0 + d.x)
        stores := if s.spots.getD d.c 0 = 0 then s.stores else s.stores.set (s.spots.getD d.c 0) (s.stores.getD (s.spots.getD d.c 0) 0 - d.x)
        taken := if s.spots.getD d.c 0 = 0 then s.taken + d.x else s.taken }
    else none
  | .lay =>
    if 1 ≤ d.x ∧ d.x ≤ s.loads.getD d.c 0 then
      some { s with
        loads := s.loads.set d.c (s.loads.getD d.c 0 - d.x)
        stores := if s.spots.getD d.c 0 = 0 then s.stores else addAt s.stores (s.spots.getD d.c 0) d.x
        taken := if s.spots.getD d.c 0 = 0 then s.taken - d.x else s.taken }
    else none
/-- the standing behind deeds, or the number of the first that can not be done -/
def runF (L : List Nat) (room : Nat) : Nat → Stand → List Deed → Nat ⊕ Stand
  | _, s, [] => .inr s
  | i, s, d :: ds => match deedF L room s d with
    | none => .inl i
    | some s' => runF L room (i + 1) s' ds
def standF (L : List Nat) (room carts : Nat) (ds : List Deed) : Nat ⊕ Stand := runF L room 0 (stand0 (L.length + 1) carts) ds
structure StOk (n carts : Nat) (s : Stand) : Prop where
  l1 : s.spots.length = carts
  l2 : s.loads.length = carts
  l3 : s.stores.length = n
  l4 : s.outs.length = n
  l5 : s.backs.length = n
  sp : ∀ c, s.spots.getD c 0 < n
theorem ok_stand0 {n carts : Nat} (hn : 1 ≤ n) : StOk n carts (stand0 n carts) := by
  refine ⟨by simp [stand0], by simp [stand0], by simp [stand0], by simp [stand0], by simp [stand0], fun c => ?_⟩
  have : (stand0 n carts).spots.getD c 0 = 0 := by
    unfold stand0
    dsimp only
    rw [List.getD_eq_getElem?_getD, List.getElem?_replicate]
    split <;> rfl
  omega
theorem getD_lt {l : List Nat} {n : Nat} (hn : 1 ≤ n) (h : ∀ x ∈ l, x < n) (c : Nat) : l.getD c 0 < n := by
  rw [List.getD_eq_getElem?_getD]
  cases e : l[c]? with
  | none => exact hn
  | some x => exact h x (List.mem_of_getElem? e)
theorem getD_set_lt {l : List Nat} {n i x : Nat} (hx : x < n) (h : ∀ c, l.getD c 0 < n) (c : Nat) : (l.set i x).getD c 0 < n := by
  rw [List.getD_eq_getElem?_getD, List.getElem?_set]
  split
  · split
    · exact hx
    · have := h c; simp; omega
  · rw [← List.getD_eq_getElem?_getD]
    exact h c
theorem near_lt {L : List Nat} (wf : WfL L) {p q : Nat} (hp : p < L.length + 1) (h : (isOut L p q || isBack L p q) = true) : q < L.length + 1 := by
  unfold isOut isBack at h
  simp only [Bool.or_eq_true, Bool.and_eq_true, decide_eq_true_eq] at h
  rcases h with ⟨_, h, _⟩ | ⟨h1, h2⟩
  · omega
  · have := wf (p - 1) (by omega)
    omega
theorem ok_deed {L : List Nat} (wf : WfL L) {room carts : Nat} {s s' : Stand} {d : Deed} (h : StOk (L.length + 1) carts s) (e : deedF L room s d = some s') : StOk (L.length + 1) carts s' := by
  unfold deedF at e
  obtain ⟨w, c, x⟩ := d
  cases w with
  | go =>
    dsimp only at e
    split at e
    · rename_i hc
      cases e
      have hx := near_lt wf (h.sp c) hc.1
      refine ⟨by simp [h.l1], by simp [h.l2], h.l3, ?_, ?_, getD_set_lt hx h.sp⟩
      · dsimp only; split <;> simp [addAt, h.l4]
      · dsimp only; split <;> simp [addAt, h.l5]
    · cases e
  | take =>
    dsimp only at e
    split at e
    · cases e
      refine ⟨h.l1, by simp [h.l2], ?_, h.l4, h.l5, h.sp⟩
      dsimp only; split <;> simp [h.l3]
    · cases e
  | lay =>
    dsimp only at e
    split at e
    · cases e
      refine ⟨h.l1, by simp [h.l2], ?_, h.l4, h.l5, h.sp⟩
      dsimp only; split <;> simp [addAt, h.l3]
    · cases e
theorem ok_run {L : List Nat} (wf : WfL L) {room carts : Nat} : ∀ {ds : List Deed} {i : Nat} {s s' : Stand}, StOk (L.length + 1) carts s → runF L room i s ds = .inr s' → StOk (L.length + 1) carts s'
  | [], _, _, _, h, e => by cases e; exact h
  | d :: ds, i, s, s', h, e => by
    unfold runF at e
    cases hd : deedF L room s d with
    | none => rw [hd] at e; cases e
    | some s2 =>
      rw [hd] at e
      exact ok_run wf (ok_deed wf h hd) e
theorem run_snoc {L : List Nat} {room : Nat} {d : Deed} : ∀ {ds : List Deed} {i : Nat} {s : Stand}, runF L room i s (ds ++ [d]) = match runF L room i s ds with
    | .inl j => .inl j
    | .inr s' => match deedF L room s' d with
      | none => .inl (i + ds.length)
      | some s2 => .inr s2
  | [], i, s => by
    cases hd : deedF L room s d <;> simp [runF, hd]
  | x :: ds, i, s => by
    rw [List.cons_append]
    unfold runF
    cases hd : deedF L room s x with
    | none => rfl
    | some s2 =>
      dsimp only
      rw [run_snoc (ds := ds) (i := i + 1) (s := s2)]
      cases runF L room (i + 1) s2 ds with
      | inl j => rfl
      | inr s3 =>
        dsimp only
        cases deedF L room s3 d with
        | none => dsimp only; congr 1; simp only [List.length_cons]; omega
        | some s4 => rfl
theorem run_take {L : List Nat} {room : Nat} : ∀ {ds : List Deed} {i k : Nat} {s s' : Stand}, runF L room i s ds = .inr s' → ∃ s2, runF L room i s (ds.take k) = .inr s2
  | [], i, k, s, s', h => ⟨s', by rw [List.take_nil]; exact h⟩
  | d :: ds, i, 0, s, s', h => ⟨s, rfl⟩
  | d :: ds, i, k + 1, s, s', h => by
    rw [List.take_succ_cons]
    unfold runF at h ⊢
    cases hd : deedF L room s d with
    | none => rw [hd] at h; cases h
    | some s2 =>
      rw [hd] at h
      exact run_take h
end Oat
namespace Oa
open PySem PySem.Spec PyProof.Rows L2 Oat
section
variable {P : Program} {w : World} {K : PySem.W.Frag} {mg : Str → Option Value} {base : Heap}
/-! ### BadPlan(number) -/
def sp_bp (K : PySem.W.Frag) : Sp := fun vs H Q _ => ∃ a n, vs = [.ref a, .int n] ∧ n.natAbs.log2 < 1920 ∧ H a = some (exo a (He.ga K "BadPlan") none) ∧ ∀ dx, H dx = none → dx ≠ a → Q .non (upd (upd H dx (exd dx [("number", .int n)])) a (exo a (He.ga K "BadPlan") (some dx)))
theorem c_BadPlan___init__ (T : Txt K mg) (N : PlanE K mg) : CalM P w K mg base CX0 1 "BadPlan" "__init__" ["self", "number"] (sp_bp K) := by
  refine calM T.d_BadPlan___init__ sc_BadPlan___init__ (fun _ _ _ _ _ _ us hl => match us, hl with | [_, _], _ => rfl) (fun vs H Q E h => ?_) (fun f cdv A outer s H vs Q E hr h => ?_)
  · obtain ⟨a, n, rfl, _⟩ := h
    rfl
  · obtain ⟨a, n, rfl, hn, ha, q⟩ := h
    refine ⟨_, (pss_cons (ps_expr (pclsinit K N.go N.oga N.ord N.oin (pa_cons (pv 0) (pa_cons (pe_op op_add_str pe_str (pe_callTy call_str_int rfl T.b_str (by decide +kernel) (pa_cons (pv 1) pa_nil))) pa_nil)))) (pss_one (ps_ost (pv 0) (pv 1)))), ?_⟩
    have hl : ("deed " : Str).length + (Str.ofString (toString n)).length ≤ sizeLine := by
      have h1 := PyProof.Rows.int_text_len_1921 hn
      have h2 : ("deed " : Str).length = 5 := by decide
      rw [h2, sizeLine_eq]
      omega
    refine ⟨_, rfl, _, rfl, n, rfl, hn, _, _, rfl, rfl, hl, a, _, _, rfl, by show 1 ≤ 1000; decide, N.ox, ha, ?_⟩
    exact ⟨_, rfl, _, rfl, a, _, rfl, N.ox, N.num, .inl ⟨ha, fun dx hd hne => q dx hd hne⟩⟩
theorem pmkP {X : Cx} {e : Expr} {es : List Expr} {ta : TA} {p pos : Pos} (c : CalM X.prog X.w X.K X.mg X.base CX0 1 "BadPlan" "__init__" ["self", "number"] (sp_bp X.K)) (N : PlanE X.K X.mg) (hr : Room 2 X.A) (ha : PA X (e :: es) ta) (hg : Gl X "BadPlan" := by rfl)
    (he : starEach (e :: es) X.env = (false, eval e X.env) :: starEach es X.env := by rfl) (hpl : (backTo pos (starEach es X.env)).any (·.1) = false := by rfl) :
    PMk X (.Call (.Name "BadPlan" p) (e :: es) [] pos) (tMkO (He.ga X.K "BadPlan") (sp_bp X.K) [] ta) := by
  obtain ⟨fd, b, F⟩ := c
  exact pmk_oex N.ox N.ini N.ity F hr b .nil pass0 hg N.g ha (by decide) he hpl
theorem raise_bp {H : Hp} {n : Int} {W : XK} (hn : n.natAbs.log2 < 1920) (h : ∀ d, H d = none → W (.ref (He.ga K "BadPlan")) (some d) (upd H d (.xd [("number", .int n)]))) : [V.int n].length ≤ 1000 ∧ ∀ a, H a = none → sp_bp K (.ref a :: ([.int n] ++ [])) (upd H a (exo a (He.ga K "BadPlan") none))
    (fun v H2 => v = .non ∧ ∃ (d : Addr) (fs : List (Str × V)), H2 a = some (exo a (He.ga K "BadPlan") (some d)) ∧ H2 d = some (exd d fs) ∧ H d = none ∧ W (.ref (He.ga K "BadPlan")) (some d) (upd (del H2 a) d (.xd fs))) (fun _ _ _ => False) := by
  refine ⟨by show 1 ≤ 1000; decide, fun a na => ⟨a, n, rfl, hn, upd_same, fun dx hd hne => ⟨rfl, dx, [("number", .int n)], upd_same, by rw [upd_ne hne, upd_same], ?_, ?_⟩⟩⟩
  · rw [upd_ne hne] at hd
    exact hd
  · rw [upd_ne hne] at hd
    have e : (upd (del (upd (upd (upd H a (exo a (He.ga K "BadPlan") none)) dx (exd dx [("number", V.int n)])) a (exo a (He.ga K "BadPlan") (some dx))) a) dx (.xd [("number", .int n)])) = upd H dx (.xd [("number", .int n)]) := by
      funext b
      by_cases h1 : b = dx
      · rw [h1, upd_same, upd_same]
      · rw [upd_ne h1, upd_ne h1]
        by_cases h2 : b = a
        · rw [h2, del_same, na]
        · rw [del_ne h2, upd_ne h2, upd_ne h1, upd_ne h2]
    rw [e]
    exact h dx hd
/-! ### neighbours -/
def nearQ (L : List Nat) (p q : Nat) : Bool := isOut L p q || isBack L p q
def sp_neighbours (K : PySem.W.Frag) : Sp := fun vs H Q _ => ∃ a L p, vs = [.ref a, .int ((p : Nat) : Int)] ∧ SqT K H a (landV L) ∧ L.length < 30 ∧ p ≤ L.length ∧
  ∀ (l : Addr) (ns : List Int) H', Same H H' → H' l = some (.lst (ns.map V.int)) → (∀ q : Nat, ((q : Nat) : Int) ∈ ns ↔ nearQ L p q = true) → Q (.ref l) H'
theorem mem_kids_out {L : List Nat} {p q : Nat} : q ∈ kids L p ↔ isOut L p q = true := by
  rw [mem_kids]
  unfold isOut
  simp only [Bool.and_eq_true, decide_eq_true_eq]
  constructor
  · rintro ⟨i, h1, h2, rfl⟩
    exact ⟨by omega, by omega, by rw [Nat.add_sub_cancel]; exact h2⟩
  · rintro ⟨h1, h2, h3⟩
    exact ⟨q - 1, by omega, h3, by omega⟩
theorem c_neighbours (T : Txt K mg) : Cal P w K mg base CX0 2 "neighbours" ["land", "place"] (sp_neighbours K) := by
  refine cal0 T.d_neighbours sc_neighbours (fun _ _ _ _ _ _ us hl => match us, hl with | [_, _], _ => rfl) (fun vs H Q E h => ?_) (fun f cdv A outer s H vs Q E hr h => ?_)
  · obtain ⟨a, L, p, rfl, _⟩ := h
    rfl
  · obtain ⟨a, L, p, rfl, hS, hL, hp, q⟩ := h
    refine ⟨_, (pss_one (ps_ret (pe_callB (srtI K) rfl T.b_sorted (by decide +kernel) (pa_cons (pe_op op_cat (pe_ifExp (pt_cmpR op_eq (pv 1) pe_int (nomark _)) (pe_lst pa_nil) (pe_lst (pa_cons (pe_ix (ixT K) (pv 0) (pv 1) (fun _ _ => rfl)) pa_nil))) (pcall (c_beyond T) (hr.mono (by omega)) (pa_cons (pv 0) (pa_cons (pv 1) pa_nil)))) pa_nil)))), ?_⟩
    have fin : ∀ (l : Addr) (H1 : Hp) (hd : List Nat), Same H H1 → H1 l = some (.lst (hd.map fun (k : Nat) => V.int (k : Int))) → hd.length ≤ 1 → (∀ q : Nat, q ∈ hd ↔ isBack L p q = true) →
        tCB (rSortedI K) (tCons (fun σ H Q => tCall (sp_beyond K) [] E0 (tCons (tVar 0) (tCons (tVar 1) tNil)) σ H fun y H2 => rCat (.ref l) y H2 Q) tNil) [some (.ref a), some (.int ((p : Nat) : Int))] H1 Q := by
      intro l H1 hd s1 hl h1 hb
      refine ⟨_, rfl, _, rfl, a, L, p, rfl, same_t s1 hS, hL, fun kl H2 nkl s2 hkl => ?_⟩
      have hkn := kids_len L p
      refine ⟨l, kl, _, _, rfl, rfl, s2 _ _ hl, hkl, ?_, fun c nc => ?_⟩
      · rw [List.length_map, List.length_map]
        exact Nat.le_trans (show hd.length + (kids L p).length ≤ 1000 by omega) (Nat.le_of_lt (small1000 (Nat.le_refl _)))
      have s3 := same_new (o := .lst ((hd.map fun (k : Nat) => V.int (k : Int)) ++ (kids L p).map fun (k : Nat) => V.int (k : Int))) nc
      refine ⟨c, (hd ++ kids L p).map fun (k : Nat) => (k : Int), rfl, sql ?_, fun ns b hperm _ nb => ?_⟩
      · rw [upd_same, List.map_map, List.map_append]
        rfl
      refine q b ns _ (s1.trans (s2.trans (s3.trans (same_new nb)))) upd_same fun q => ?_
      rw [hperm.mem_iff]
      unfold nearQ
      rw [Bool.or_eq_true, ← mem_kids_out, ← hb, List.mem_map]
      constructor
      · rintro ⟨k, hk, e⟩
        have : k = q := by omega
        subst this
        rcases List.mem_append.mp hk with z | z
        · exact .inr z
        · exact .inl z
      · rintro (z | z)
        · exact ⟨q, List.mem_append_right _ z, rfl⟩
        · exact ⟨q, List.mem_append_left _ z, rfl⟩
    show tCB (rSortedI K) (tCons (tOp rCat _ (tCall (sp_beyond K) [] E0 _)) tNil) _ H Q
    refine ⟨_, rfl, rfl, _, rfl, ?_⟩
    rw [decI p]
    by_cases h0 : p = 0
    · rw [decide_eq_true h0]
      refine iteT ⟨Nat.zero_le _, fun l nl => ?_⟩
      refine fin l _ [] (same_new nl) upd_same (by decide) fun q => ?_
      unfold isBack
      simp [h0]
    · rw [decide_eq_false h0]
      have hat : (landV L)[p]? = some (.int ((L.getD (p - 1) 0 : Nat) : Int)) := by
        have := landV_at (L := L) (i := p - 1) (by omega)
        rw [show p - 1 + 1 = p by omega] at this
        exact this
      refine iteF ⟨_, rfl, _, rfl, a, _, _, _, rfl, rfl, hS, atI_nat hat, by show 1 ≤ sizeLine; decide, fun l nl => ?_⟩
      refine fin l _ [L.getD (p - 1) 0] (same_new nl) upd_same (Nat.le_refl 1) fun q => ?_
      unfold isBack
      simp only [List.mem_singleton, Bool.and_eq_true, decide_eq_true_eq]
      constructor
      · intro e
        exact ⟨by omega, e.symm⟩
      · intro e
        exact e.2.symm
end
end Oa
namespace Oa
open PySem PySem.Spec PyProof.Rows L2 Oat
/-! ### standings, as they lie -/
abbrev nV (l : List Nat) : List V := l.map fun (k : Nat) => V.int (k : Int)
def calledV (n : Nat) (seen : List Nat) : List V := (List.range n).map fun q => V.bl (decide (q ∈ seen))
structure SA where
  p : Addr
  dx : Addr
  sp : Addr
  ld : Addr
  st : Addr
  cl : Addr
  ou : Addr
  ba : Addr
def SA.fs (A : SA) (a b : Addr) (tk : Int) : List (Str × V) := [("land", .ref a), ("works", .ref b), ("spots", .ref A.sp), ("loads", .ref A.ld), ("stores", .ref A.st), ("taken", .int tk), ("called", .ref A.cl), ("outs", .ref A.ou), ("backs", .ref A.ba)]
structure StAt (K : PySem.W.Frag) (H : Hp) (A : SA) (a b : Addr) (n : Nat) (S : Stand) : Prop where
  o : H A.p = some (.ins (He.ga K "Standing") A.dx (A.fs a b S.taken))
  sp : H A.sp = some (.lst (nV S.spots))
  ld : H A.ld = some (.lst (nV S.loads))
  st : H A.st = some (.lst (nV S.stores))
  cl : H A.cl = some (.lst (calledV n S.seen))
  ou : H A.ou = some (.lst (nV S.outs))
  ba : H A.ba = some (.lst (nV S.backs))
  n1 : A.sp ≠ A.ld ∧ A.sp ≠ A.st ∧ A.sp ≠ A.cl ∧ A.sp ≠ A.ou ∧ A.sp ≠ A.ba
  n2 : A.ld ≠ A.st ∧ A.ld ≠ A.cl ∧ A.ld ≠ A.ou ∧ A.ld ≠ A.ba
  n3 : A.st ≠ A.cl ∧ A.st ≠ A.ou ∧ A.st ≠ A.ba
  n4 : A.cl ≠ A.ou ∧ A.cl ≠ A.ba
  n5 : A.ou ≠ A.ba
/-- all that is no part of a standing stays -/
def SBut (A : SA) (H H' : Hp) : Prop := ∀ x o, x ≠ A.p → x ≠ A.sp → x ≠ A.ld → x ≠ A.st → x ≠ A.cl → x ≠ A.ou → x ≠ A.ba → H x = some o → H' x = some o
section
variable {K : PySem.W.Frag} {H H' H1 H2 : Hp} {A : SA} {a b : Addr} {n : Nat} {S : Stand}
theorem SBut.refl : SBut A H H := fun _ _ _ _ _ _ _ _ _ e => e
theorem SBut.trans (h1 : SBut A H H1) (h2 : SBut A H1 H2) : SBut A H H2 := fun x o a b c d e f g z => h2 x o a b c d e f g (h1 x o a b c d e f g z)
theorem sbut_of (s : Same H H') : SBut A H H' := fun x o _ _ _ _ _ _ _ e => s x o e
theorem SBut.tx (h : StAt K H A a b n S) (s : SBut A H H') : TExt H H' := fun x xs r => by
  have key : ∀ {o : HO}, H x = some o → (∀ l, o ≠ .lst l) → (∀ c d f, o ≠ .ins c d f) → H' x = some o := fun {o} e n1 n2 => by
    have no : ∀ {y : Addr} {l : List V}, H y = some (.lst l) → x ≠ y := fun {y l} hy z => by rw [z, hy] at e; exact n1 l (Option.some.inj e).symm
    exact s x o (fun z => by rw [z, h.o] at e; exact n2 _ _ _ (Option.some.inj e).symm) (no h.sp) (no h.ld) (no h.st) (no h.cl) (no h.ou) (no h.ba) e
  rcases r with r | ⟨o, r⟩
  · exact .inl (key r (fun _ z => nomatch z) (fun _ _ _ z => nomatch z))
  · exact .inr ⟨o, key r (fun _ z => nomatch z) (fun _ _ _ z => nomatch z)⟩
theorem StAt.pne (h : StAt K H A a b n S) : A.p ≠ A.sp ∧ A.p ≠ A.ld ∧ A.p ≠ A.st ∧ A.p ≠ A.cl ∧ A.p ≠ A.ou ∧ A.p ≠ A.ba :=
  ⟨ne_of h.o h.sp (fun z => nomatch z), ne_of h.o h.ld (fun z => nomatch z), ne_of h.o h.st (fun z => nomatch z), ne_of h.o h.cl (fun z => nomatch z), ne_of h.o h.ou (fun z => nomatch z), ne_of h.o h.ba (fun z => nomatch z)⟩
theorem StAt.same (h : StAt K H A a b n S) (s : Same H H') : StAt K H' A a b n S := ⟨s _ _ h.o, s _ _ h.sp, s _ _ h.ld, s _ _ h.st, s _ _ h.cl, s _ _ h.ou, s _ _ h.ba, h.n1, h.n2, h.n3, h.n4, h.n5⟩
theorem sbut_upd {x : Addr} {o : HO} (hx : x = A.p ∨ x = A.sp ∨ x = A.ld ∨ x = A.st ∨ x = A.cl ∨ x = A.ou ∨ x = A.ba) : SBut A H (upd H x o) := fun y u h1 h2 h3 h4 h5 h6 h7 e => by
  have : y ≠ x := fun z => by
    subst z
    rcases hx with z | z | z | z | z | z | z
    · exact h1 z
    · exact h2 z
    · exact h3 z
    · exact h4 z
    · exact h5 z
    · exact h6 z
    · exact h7 z
  rw [upd_ne this]
  exact e
theorem StAt.set_sp (h : StAt K H A a b n S) (l : List Nat) : StAt K (upd H A.sp (.lst (nV l))) A a b n { S with spots := l } := by
  obtain ⟨a1, a2, a3, a4, a5⟩ := h.n1
  exact ⟨by rw [upd_ne h.pne.1]; exact h.o, upd_same, by rw [upd_ne a1.symm]; exact h.ld, by rw [upd_ne a2.symm]; exact h.st, by rw [upd_ne a3.symm]; exact h.cl, by rw [upd_ne a4.symm]; exact h.ou, by rw [upd_ne a5.symm]; exact h.ba, h.n1, h.n2, h.n3, h.n4, h.n5⟩
theorem StAt.set_ld (h : StAt K H A a b n S) (l : List Nat) : StAt K (upd H A.ld (.lst (nV l))) A a b n { S with loads := l } := by
  obtain ⟨a1, a2, a3, a4⟩ := h.n2
  exact ⟨by rw [upd_ne h.pne.2.1]; exact h.o, by rw [upd_ne h.n1.1]; exact h.sp, upd_same, by rw [upd_ne a1.symm]; exact h.st, by rw [upd_ne a2.symm]; exact h.cl, by rw [upd_ne a3.symm]; exact h.ou, by rw [upd_ne a4.symm]; exact h.ba, h.n1, h.n2, h.n3, h.n4, h.n5⟩
theorem StAt.set_st (h : StAt K H A a b n S) (l : List Nat) : StAt K (upd H A.st (.lst (nV l))) A a b n { S with stores := l } := by
  obtain ⟨a1, a2, a3⟩ := h.n3
  exact ⟨by rw [upd_ne h.pne.2.2.1]; exact h.o, by rw [upd_ne h.n1.2.1]; exact h.sp, by rw [upd_ne h.n2.1]; exact h.ld, upd_same, by rw [upd_ne a1.symm]; exact h.cl, by rw [upd_ne a2.symm]; exact h.ou, by rw [upd_ne a3.symm]; exact h.ba, h.n1, h.n2, h.n3, h.n4, h.n5⟩
theorem StAt.set_cl (h : StAt K H A a b n S) (l : List Nat) : StAt K (upd H A.cl (.lst (calledV n l))) A a b n { S with seen := l } := by
  obtain ⟨a1, a2⟩ := h.n4
  exact ⟨by rw [upd_ne h.pne.2.2.2.1]; exact h.o, by rw [upd_ne h.n1.2.2.1]; exact h.sp, by rw [upd_ne h.n2.2.1]; exact h.ld, by rw [upd_ne h.n3.1]; exact h.st, upd_same, by rw [upd_ne a1.symm]; exact h.ou, by rw [upd_ne a2.symm]; exact h.ba, h.n1, h.n2, h.n3, h.n4, h.n5⟩
theorem StAt.set_ou (h : StAt K H A a b n S) (l : List Nat) : StAt K (upd H A.ou (.lst (nV l))) A a b n { S with outs := l } := by
  exact ⟨by rw [upd_ne h.pne.2.2.2.2.1]; exact h.o, by rw [upd_ne h.n1.2.2.2.1]; exact h.sp, by rw [upd_ne h.n2.2.2.1]; exact h.ld, by rw [upd_ne h.n3.2.1]; exact h.st, by rw [upd_ne h.n4.1]; exact h.cl, upd_same, by rw [upd_ne h.n5.symm]; exact h.ba, h.n1, h.n2, h.n3, h.n4, h.n5⟩
theorem StAt.set_ba (h : StAt K H A a b n S) (l : List Nat) : StAt K (upd H A.ba (.lst (nV l))) A a b n { S with backs := l } := by
  exact ⟨by rw [upd_ne h.pne.2.2.2.2.2]; exact h.o, by rw [upd_ne h.n1.2.2.2.2]; exact h.sp, by rw [upd_ne h.n2.2.2.2]; exact h.ld, by rw [upd_ne h.n3.2.2]; exact h.st, by rw [upd_ne h.n4.2]; exact h.cl, by rw [upd_ne h.n5]; exact h.ou, upd_same, h.n1, h.n2, h.n3, h.n4, h.n5⟩
theorem StAt.set_tk (h : StAt K H A a b n S) (t : Int) : StAt K (upd H A.p (.ins (He.ga K "Standing") A.dx (putF "taken" (.int t) (A.fs a b S.taken)))) A a b n { S with taken := t } := by
  obtain ⟨a1, a2, a3, a4, a5, a6⟩ := h.pne
  exact ⟨by rw [upd_same]; rfl, by rw [upd_ne a1.symm]; exact h.sp, by rw [upd_ne a2.symm]; exact h.ld, by rw [upd_ne a3.symm]; exact h.st, by rw [upd_ne a4.symm]; exact h.cl, by rw [upd_ne a5.symm]; exact h.ou, by rw [upd_ne a6.symm]; exact h.ba, h.n1, h.n2, h.n3, h.n4, h.n5⟩
theorem nV_at {l : List Nat} {i : Nat} (h : i < l.length) : (nV l)[i]? = some (.int ((l.getD i 0 : Nat) : Int)) := by
  rw [List.getElem?_map, List.getD_eq_getElem?_getD, List.getElem?_eq_getElem h]
  rfl
theorem nV_set (l : List Nat) (i k : Nat) : (nV l).set i (.int ((k : Nat) : Int)) = nV (l.set i k) := by
  unfold nV
  rw [List.map_set]
theorem called_set {n q : Nat} {seen : List Nat} (hq : q < n) : (calledV n seen).set q (.bl true) = calledV n (seen ++ [q]) := by
  unfold calledV
  refine List.ext_getElem? fun i => ?_
  rw [List.getElem?_set, List.getElem?_map, List.getElem?_map]
  by_cases h : q = i
  · subst h
    rw [if_pos rfl, List.length_map, List.length_range, if_pos hq, List.getElem?_range hq]
    simp
  · rw [if_neg h]
    by_cases hi : i < n
    · rw [List.getElem?_range hi]
      simp only [Option.map_some, List.mem_append, List.mem_singleton]
      congr 2
      exact decide_eq_decide.mpr ⟨fun z => .inl z, fun z => by rcases z with z | z; exact z; exact absurd z.symm h⟩
    · rw [List.getElem?_eq_none (by rw [List.length_range]; omega)]
      rfl
end
theorem if1q {t : TT} {σ : L2.St} {H : Hp} {b : Bool} {tu tw tr : TS} {D : Ends} (S : Hp → Prop) (h : ∀ Q : Bool → Hp → Prop, (∀ H', S H' → Q b H') → t σ H Q) (h1 : b = true → ∀ H', S H' → tu { D with nx := tr D } σ H') (h2 : b = false → ∀ H', S H' → tw { D with nx := tr D } σ H') : tSeq (tIfS t tu tw) tr D σ H := h _ fun H' s => by
  cases b with
  | true => exact h1 rfl H' s
  | false => exact h2 rfl H' s
/-! ### go -/
section
variable {P : Program} {w : World} {K : PySem.W.Frag} {mg : Str → Option Value} {base : Heap}
/-- a standing with its land and works -/
structure WAt (K : PySem.W.Frag) (H : Hp) (A : SA) (a b : Addr) (L : List Nat) (carts room : Nat) (S : Stand) : Prop where
  s : StAt K H A a b (L.length + 1) S
  l : SqT K H a (landV L)
  k : SqT K H b (worksV carts room)
  ok : StOk (L.length + 1) carts S
  n : L.length < 30
  wf : WfL L
theorem WAt.but {H H' : Hp} {A : SA} {a b : Addr} {L : List Nat} {carts room : Nat} {S S' : Stand} (h : WAt K H A a b L carts room S) (s : SBut A H H') (st : StAt K H' A a b (L.length + 1) S') (ok : StOk (L.length + 1) carts S') : WAt K H' A a b L carts room S' :=
  ⟨st, (s.tx h.s).t h.l, (s.tx h.s).t h.k, ok, h.n, h.wf⟩
def doneV (K : PySem.W.Frag) (H : Hp) (A : SA) (a b : Addr) (n : Nat) (o : Option Stand) (Q : VK) : Prop := match o with
  | none => ∀ H', SBut A H H' → Q (.bl false) H'
  | some S' => ∀ H', SBut A H H' → StAt K H' A a b n S' → Q (.bl true) H'
def sp_dd (K : PySem.W.Frag) (w : DW) : Sp := fun vs H Q _ => ∃ A a b L carts room S c x, vs = [.ref A.p, .int ((c : Nat) : Int), .int ((x : Nat) : Int)] ∧ WAt K H A a b L carts room S ∧ c < carts ∧ doneV K H A a b (L.length + 1) (deedF L room S ⟨w, c, x⟩) Q
theorem c_Standing_go (T : Txt K mg) : CalM P w K mg base CX0 3 "Standing" "go" ["self", "cart", "place"] (sp_dd K .go) := by
  refine calM T.d_Standing_go sc_Standing_go (fun _ _ _ _ _ _ us hl => match us, hl with | [_, _, _], _ => rfl) (fun vs H Q E h => ?_) (fun f cdv A' outer s H vs Q E hr h => ?_)
  · obtain ⟨A, a, b, L, carts, room, S, c, x, rfl, _⟩ := h
    rfl
  · obtain ⟨A, a, b, L, carts, room, S, c, x, rfl, hW, hc, q⟩ := h
    refine ⟨_, (pss_cons (ps_set (i := 3) sc_Standing_go.nd rfl (Or.inl rfl) (pe_ix (ixL K) (pfld K (pv 0)) (pv 1) (fun _ _ => rfl)))
      (pss_cons (ps_if (PW.pt (pw_or (pt_not (pt_val (pcall (c_is_whole T) (hr.mono (by omega)) (pa_cons (pv 2) (pa_cons pe_int (pa_cons (pe_op op_sub (pe_callB (lenS K) rfl T.b_len PySem.boot_len (pa_cons (pfld K (pv 0)) pa_nil)) pe_int) pa_nil)))))) (pw_or1 (pt_cmpR (ninS K) (pv 2) (pcall (c_neighbours T) (hr.mono (by omega)) (pa_cons (pfld K (pv 0)) (pa_cons (pv 3) pa_nil))) rfl)))) (pss_one (ps_ret pe_bl)) pss_nil)
      (pss_cons (ps_if (pt_cmpR op_eq (pe_ix (ixL K) (pfld K (pv 0)) (pv 1) (fun _ _ => rfl)) pe_int (nomark _)) (pss_one (ps_ret pe_bl)) pss_nil)
      (pss_cons (ps_augS (pfld K (pv 0)) (pv 1) (getL K) pe_int ip_sub set_list)
      (pss_cons (ps_asg (pv 2) (pg_sub (pfld K (pv 0)) (pv 1) set_list))
      (pss_cons (ps_asg pe_bl (pg_sub (pfld K (pv 0)) (pv 2) set_list))
      (pss_cons (ps_if (pt_cmpR op_eq (pe_ix (ixT K) (pfld K (pv 0)) (pv 2) (fun _ _ => rfl)) (pv 3) (nomark _)) (pss_one (ps_augS (pfld K (pv 0)) (pv 2) (getL K) pe_int ip_add set_list)) (pss_one (ps_augS (pfld K (pv 0)) (pv 3) (getL K) pe_int ip_add set_list)))
      (pss_one (ps_ret pe_bl))))))))), ?_⟩
    have hS := hW.s
    have cl := T.cl_Standing
    have hn := hW.n
    have hsp : c < S.spots.length := by rw [hW.ok.l1]; exact hc
    have hld : c < S.loads.length := by rw [hW.ok.l2]; exact hc
    have hp := hW.ok.sp c
    refine ⟨_, rfl, A.p, _, A.dx, _, _, rfl, hS.o, cl, T.na_Standing_spots, rfl, _, rfl, A.sp, _, _, _, rfl, rfl, sql hS.sp, atI_nat (nV_at hsp), ?_⟩
    dsimp only [gName]
    generalize hhe : S.spots.getD c 0 = p at hp
    show tSeq (tIfS _ _ _) _ _ [some (.ref A.p), some (.int ((c : Nat) : Int)), some (.int ((x : Nat) : Int)), some (.int ((p : Nat) : Int))] H
    have hne : (isOut L p x || isBack L p x) = nearQ L p x := rfl
    refine if1q (Same H) (b := !nearQ L p x) (fun Q' q' => ?_) (fun hb H1 s1 => ?_) (fun hb H1 s1 => ?_)
    · refine ⟨_, rfl, _, rfl, A.p, _, A.dx, _, _, rfl, hS.o, cl, T.na_Standing_land, rfl, a, _, rfl, .inr hW.l, _, _, rfl, rfl, _, _, _, rfl, .inl ⟨_, rfl⟩, _, rfl, ?_⟩
      by_cases hx : x ≤ L.length
      · rw [show isWholeV (.int ((x : Nat) : Int)) 0 (((landV L).length : Int) - 1) = true from decide_eq_true ⟨by omega, by rw [landV_len]; omega⟩]
        refine iteF ⟨_, rfl, _, rfl, A.p, _, A.dx, _, _, rfl, hS.o, cl, T.na_Standing_land, rfl, _, rfl, a, L, p, rfl, hW.l, hn, by omega, fun l ns H1 s1 hl hmem => ?_⟩
        refine ⟨l, _, rfl, .inl (sql hl), rfl, by simp [flatV], _, rfl, ?_⟩
        have e : inV (.int ((x : Nat) : Int)) (ns.map V.int) = nearQ L p x := by
          rw [Bool.eq_iff_iff, ← hmem]
          unfold inV
          rw [List.any_eq_true]
          constructor
          · rintro ⟨y, hy, he⟩
            obtain ⟨z, hz, rfl⟩ := List.mem_map.mp hy
            have : z = (x : Int) := by simpa [eqV] using he
            rw [← this]
            exact hz
          · intro h
            exact ⟨.int (x : Int), List.mem_map.mpr ⟨_, h, rfl⟩, by simp [eqV]⟩
        show Q' (!inV (.int ((x : Nat) : Int)) (ns.map V.int)) H1
        rw [e]
        exact q' _ s1
      · rw [show isWholeV (.int ((x : Nat) : Int)) 0 (((landV L).length : Int) - 1) = false from decide_eq_false (fun z => by rw [landV_len] at z; omega)]
        have e : nearQ L p x = false := by
          cases hh : nearQ L p x with
          | false => rfl
          | true => have := near_lt hW.wf hp hh; omega
        rw [e] at q'
        exact iteT (q' _ (Same.refl _))
    · have e : nearQ L p x = false := by cases hh : nearQ L p x with | false => rfl | true => rw [hh] at hb; cases hb
      have e2 : deedF L room S ⟨.go, c, x⟩ = none := by
        show (if _ then _ else _) = _
        rw [hhe, if_neg (fun z => by rw [hne, e] at z; cases z.1)]
      rw [e2] at q
      exact q H1 (sbut_of s1)
    have hnr : nearQ L p x = true := by cases hh : nearQ L p x with | true => rfl | false => rw [hh] at hb; cases hb
    have hxn := near_lt hW.wf hp hnr
    have hS1 := hS.same s1
    have hl1 := same_t s1 hW.l
    dsimp only [tNext]
    refine ⟨_, rfl, A.p, _, A.dx, _, _, rfl, hS1.o, cl, T.na_Standing_loads, rfl, _, rfl, A.ld, _, _, _, rfl, rfl, sql hS1.ld, atI_nat (nV_at hld), rfl, _, rfl, ?_⟩
    rw [decI]
    by_cases h0 : S.loads.getD c 0 = 0
    · rw [decide_eq_true h0]
      have e2 : deedF L room S ⟨.go, c, x⟩ = none := by
        show (if _ then _ else _) = _
        rw [if_neg (fun z => z.2 h0)]
      rw [e2] at q
      exact iteT (q H1 (sbut_of s1))
    rw [decide_eq_false h0]
    refine iteF ?_
    -- self.loads[cart] -= 1
    refine ⟨_, rfl, A.p, _, A.dx, _, _, rfl, hS1.o, cl, T.na_Standing_loads, rfl, _, rfl, A.ld, _, c, _, rfl, rfl, sql hS1.ld, nV_at hld, _, _, rfl, rfl, A.ld, _, _, c, rfl, rfl, hS1.ld, ixN_nat (by rw [List.length_map]; exact hld), ?_⟩
    dsimp only
    rw [show ((S.loads.getD c 0 : Nat) : Int) - 1 = ((S.loads.getD c 0 - 1 : Nat) : Int) by omega, nV_set]
    have s2 : SBut A H (upd H1 A.ld (.lst (nV (S.loads.set c (S.loads.getD c 0 - 1))))) := (sbut_of s1).trans (sbut_upd (.inr (.inr (.inl rfl))))
    have hS2 := hS1.set_ld (S.loads.set c (S.loads.getD c 0 - 1))
    have hl2 : SqT K (upd H1 A.ld (.lst (nV (S.loads.set c (S.loads.getD c 0 - 1))))) a (landV L) := (s2.tx hS).t hW.l
    generalize upd H1 A.ld (.lst (nV (S.loads.set c (S.loads.getD c 0 - 1)))) = H2 at s2 hS2 hl2 ⊢
    -- self.spots[cart] = place
    refine ⟨_, rfl, _, rfl, A.p, _, A.dx, _, _, rfl, hS2.o, cl, T.na_Standing_spots, rfl, _, rfl, A.sp, _, _, c, rfl, rfl, hS2.sp, ixN_nat (by rw [List.length_map]; exact hsp), ?_⟩
    rw [nV_set]
    have s3 := s2.trans (sbut_upd (A := A) (H := H2) (o := .lst (nV (S.spots.set c x))) (.inr (.inl rfl)))
    have hS3 := hS2.set_sp (S.spots.set c x)
    have hl3 : SqT K (upd H2 A.sp (.lst (nV (S.spots.set c x)))) a (landV L) := (s3.tx hS).t hW.l
    dsimp only at hS3 hS2
    generalize upd H2 A.sp (.lst (nV (S.spots.set c x))) = H3 at s3 hS3 hl3 ⊢
    -- self.called[place] = True
    refine ⟨_, rfl, A.p, _, A.dx, _, _, rfl, hS3.o, cl, T.na_Standing_called, rfl, _, rfl, A.cl, _, _, x, rfl, rfl, hS3.cl, ixN_nat (by unfold calledV; rw [List.length_map, List.length_range]; exact hxn), ?_⟩
    dsimp only
    rw [called_set hxn]
    have s4 := s3.trans (sbut_upd (A := A) (H := H3) (o := .lst (calledV (L.length + 1) (S.seen ++ [x]))) (.inr (.inr (.inr (.inr (.inl rfl))))))
    have hS4 := hS3.set_cl (S.seen ++ [x])
    have hl4 : SqT K (upd H3 A.cl (.lst (calledV (L.length + 1) (S.seen ++ [x])))) a (landV L) := (s4.tx hS).t hW.l
    dsimp only at hS4
    generalize upd H3 A.cl (.lst (calledV (L.length + 1) (S.seen ++ [x]))) = H4 at s4 hS4 hl4 ⊢
    -- if self.land[place] == here
    have hland : ∃ v, (landV L)[x]? = some v ∧ scal v (.int ((p : Nat) : Int)) = true ∧ decide (v = .int ((p : Nat) : Int)) = isOut L p x := by
      by_cases hx0 : x = 0
      · subst hx0
        exact ⟨.non, rfl, rfl, by unfold isOut; rfl⟩
      · have := landV_at (L := L) (i := x - 1) (by omega)
        rw [show x - 1 + 1 = x by omega] at this
        refine ⟨_, this, rfl, ?_⟩
        unfold isOut
        rw [decide_eq_true (show 1 ≤ x by omega), decide_eq_true (show x ≤ L.length by omega), Bool.true_and, Bool.true_and]
        exact decide_eq_decide.mpr ⟨fun z => by injection z with z; omega, fun z => by rw [z]⟩
    obtain ⟨v, hv, hsc, hdec⟩ := hland
    have hde : deedF L room S ⟨.go, c, x⟩ = some { S with loads := S.loads.set c (S.loads.getD c 0 - 1), spots := S.spots.set c x, seen := S.seen ++ [x], outs := if isOut L p x = true then addAt S.outs x 1 else S.outs, backs := if isOut L p x = true then S.backs else addAt S.backs p 1 } := by
      show (if _ then _ else _) = _
      rw [hhe, if_pos ⟨hnr, h0⟩]
    rw [hde] at q
    refine ⟨_, rfl, A.p, _, A.dx, _, _, rfl, hS4.o, cl, T.na_Standing_land, rfl, _, rfl, a, _, _, v, rfl, rfl, hl4, atI_nat hv, _, rfl, hsc, _, rfl, ?_⟩
    rw [hdec]
    cases hio : isOut L p x with
    | true =>
      have hxo : x < S.outs.length := by rw [hW.ok.l4]; exact hxn
      refine iteT ⟨_, rfl, A.p, _, A.dx, _, _, rfl, hS4.o, cl, T.na_Standing_outs, rfl, _, rfl, A.ou, _, x, _, rfl, rfl, sql hS4.ou, nV_at hxo, _, _, rfl, rfl, A.ou, _, _, x, rfl, rfl, hS4.ou, ixN_nat (by rw [List.length_map]; exact hxo), ?_⟩
      dsimp only
      rw [show ((S.outs.getD x 0 : Nat) : Int) + 1 = ((S.outs.getD x 0 + 1 : Nat) : Int) by omega, nV_set]
      refine q _ (s4.trans (sbut_upd (.inr (.inr (.inr (.inr (.inr (.inl rfl)))))))) ?_
      have := hS4.set_ou (S.outs.set x (S.outs.getD x 0 + 1))
      rw [hio]
      exact this
    | false =>
      have hxo : p < S.backs.length := by rw [hW.ok.l5]; exact hp
      refine iteF ⟨_, rfl, A.p, _, A.dx, _, _, rfl, hS4.o, cl, T.na_Standing_backs, rfl, _, rfl, A.ba, _, p, _, rfl, rfl, sql hS4.ba, nV_at hxo, _, _, rfl, rfl, A.ba, _, _, p, rfl, rfl, hS4.ba, ixN_nat (by rw [List.length_map]; exact hxo), ?_⟩
      dsimp only
      rw [show ((S.backs.getD p 0 : Nat) : Int) + 1 = ((S.backs.getD p 0 + 1 : Nat) : Int) by omega, nV_set]
      refine q _ (s4.trans (sbut_upd (.inr (.inr (.inr (.inr (.inr (.inr rfl)))))))) ?_
      have := hS4.set_ba (S.backs.set p (S.backs.getD p 0 + 1))
      rw [hio]
      exact this
end
end Oa
namespace Oa
open PySem PySem.Spec PyProof.Rows L2 Oat
section
variable {P : Program} {w : World} {K : PySem.W.Frag} {mg : Str → Option Value} {base : Heap}
/-! ### take -/
theorem c_Standing_take (T : Txt K mg) : CalM P w K mg base CX0 2 "Standing" "take" ["self", "cart", "units"] (sp_dd K .take) := by
  refine calM T.d_Standing_take sc_Standing_take (fun _ _ _ _ _ _ us hl => match us, hl with | [_, _, _], _ => rfl) (fun vs H Q E h => ?_) (fun f cdv A' outer s H vs Q E hr h => ?_)
  · obtain ⟨A, a, b, L, carts, room, S, c, x, rfl, _⟩ := h
    rfl
  · obtain ⟨A, a, b, L, carts, room, S, c, x, rfl, hW, hc, q⟩ := h
    refine ⟨_, (pss_cons (ps_set (i := 3) sc_Standing_take.nd rfl (Or.inl rfl) (pe_ix (ixL K) (pfld K (pv 0)) (pv 1) (fun _ _ => rfl)))
      (pss_cons (ps_if (pt_not (pt_val (pcall (c_is_whole T) (hr.mono (by omega)) (pa_cons (pv 2) (pa_cons pe_int (pa_cons (pe_op op_sub (pe_ix (ixT K) (pfld K (pv 0)) pe_int (fun _ _ => rfl)) (pe_ix (ixL K) (pfld K (pv 0)) (pv 1) (fun _ _ => rfl))) pa_nil)))))) (pss_one (ps_ret pe_bl)) pss_nil)
      (pss_cons (ps_if (pt_cmpR op_eq (pv 3) pe_int (nomark _)) (pss_one (sfldA K (pv 0) (pv 2) in_add)) (pss_one (ps_if (pt_cmpR op_gt (pv 2) (pe_ix (ixL K) (pfld K (pv 0)) (pv 3) (fun _ _ => rfl)) (nomark _)) (pss_one (ps_ret pe_bl)) (pss_one (ps_augS (pfld K (pv 0)) (pv 3) (getL K) (pv 2) ip_sub set_list)))))
      (pss_cons (ps_augS (pfld K (pv 0)) (pv 1) (getL K) (pv 2) ip_add set_list)
      (pss_one (ps_ret pe_bl)))))), ?_⟩
    have hS := hW.s
    have cl := T.cl_Standing
    have hsp : c < S.spots.length := by rw [hW.ok.l1]; exact hc
    have hld : c < S.loads.length := by rw [hW.ok.l2]; exact hc
    have hp := hW.ok.sp c
    refine ⟨_, rfl, A.p, _, A.dx, _, _, rfl, hS.o, cl, T.na_Standing_spots, rfl, _, rfl, A.sp, _, _, _, rfl, rfl, sql hS.sp, atI_nat (nV_at hsp), ?_⟩
    dsimp only [gName]
    generalize hhe : S.spots.getD c 0 = p at hp
    show tSeq (tIfS _ _ _) _ _ [some (.ref A.p), some (.int ((c : Nat) : Int)), some (.int ((x : Nat) : Int)), some (.int ((p : Nat) : Int))] H
    refine if1q (fun H' => H' = H) (b := !decide (1 ≤ x ∧ S.loads.getD c 0 + x ≤ room)) (fun Q' q' => ?_) (fun hb H1 s1 => ?_) (fun hb H1 s1 => ?_)
    · refine ⟨_, rfl, _, rfl, A.p, _, A.dx, _, _, rfl, hS.o, cl, T.na_Standing_works, rfl, b, _, 1, _, rfl, rfl, hW.k, atI_nat (j := 1) rfl, _, rfl, A.p, _, A.dx, _, _, rfl, hS.o, cl, T.na_Standing_loads, rfl, _, rfl, A.ld, _, _, _, rfl, rfl, sql hS.ld, atI_nat (nV_at hld), _, _, rfl, rfl, _, _, _, rfl, .inl ⟨_, rfl⟩, _, rfl, ?_⟩
      rw [show isWholeV (.int ((x : Nat) : Int)) 1 (((room : Nat) : Int) - ((S.loads.getD c 0 : Nat) : Int)) = decide (1 ≤ x ∧ S.loads.getD c 0 + x ≤ room) from decide_eq_decide.mpr ⟨fun z => ⟨by omega, by omega⟩, fun z => ⟨by omega, by omega⟩⟩]
      exact q' _ rfl
    · subst s1
      have e : ¬ (1 ≤ x ∧ S.loads.getD c 0 + x ≤ room) := fun z => by rw [decide_eq_true z] at hb; cases hb
      have e2 : deedF L room S ⟨.take, c, x⟩ = none := by
        show (if _ then _ else _) = _
        rw [if_neg (fun z => e ⟨z.1, z.2.1⟩)]
      rw [e2] at q
      exact q H1 SBut.refl
    subst s1
    have hx : 1 ≤ x ∧ S.loads.getD c 0 + x ≤ room := by
      cases hd : decide (1 ≤ x ∧ S.loads.getD c 0 + x ≤ room) with
      | true => exact of_decide_eq_true hd
      | false => rw [hd] at hb; cases hb
    have last : ∀ (H2 : Hp) (S2 : Stand), SBut A H1 H2 → StAt K H2 A a b (L.length + 1) S2 → S2.loads = S.loads → (∀ H', SBut A H1 H' → StAt K H' A a b (L.length + 1) { S2 with loads := S.loads.set c (S.loads.getD c 0 + x) } → Q (.bl true) H') →
        tSeq (tAugS (tFld K (tVar 0) (Str.ofString "loads")) (tVar 1) (tVar 2) (rIxN K) (ipI fun i j => i + j) rSetL) (tRet (tC (V.bl true))) { nx := fun x H' => Q V.non H', rt := Q } [some (.ref A.p), some (.int ((c : Nat) : Int)), some (.int ((x : Nat) : Int)), some (.int ((p : Nat) : Int))] H2 := by
      intro H2 S2 s2 hS2 hl q2
      have hld2 := hS2.ld
      rw [hl] at hld2
      refine ⟨_, rfl, A.p, _, A.dx, _, _, rfl, hS2.o, cl, T.na_Standing_loads, rfl, _, rfl, A.ld, _, c, _, rfl, rfl, sql hld2, nV_at hld, _, rfl, _, _, rfl, rfl, A.ld, _, _, c, rfl, rfl, hld2, ixN_nat (by rw [List.length_map]; exact hld), ?_⟩
      dsimp only
      rw [show ((S.loads.getD c 0 : Nat) : Int) + ((x : Nat) : Int) = ((S.loads.getD c 0 + x : Nat) : Int) by omega, nV_set]
      exact q2 _ (s2.trans (sbut_upd (.inr (.inr (.inl rfl))))) (hS2.set_ld _)
    dsimp only [tNext]
    refine ⟨_, rfl, rfl, _, rfl, ?_⟩
    rw [decI p]
    by_cases h0 : p = 0
    · rw [decide_eq_true h0]
      have e2 : deedF L room S ⟨.take, c, x⟩ = some { S with loads := S.loads.set c (S.loads.getD c 0 + x), taken := S.taken + x } := by
        show (if _ then _ else _) = _
        rw [hhe, if_pos ⟨hx.1, hx.2, .inl h0⟩, if_pos h0, if_pos h0]
      rw [e2] at q
      refine iteT ⟨_, rfl, A.p, _, A.dx, _, _, rfl, hS.o, cl, T.na_Standing_taken, rfl, _, rfl, _, _, rfl, rfl, A.dx, _, hS.o, by show 9 < 1000; decide, ?_⟩
      exact last _ { S with taken := S.taken + x } (sbut_upd (.inl rfl)) (hS.set_tk _) rfl fun H' s' h' => q H' s' h'
    · rw [decide_eq_false h0]
      have hps : p < S.stores.length := by rw [hW.ok.l3]; exact hp
      refine iteF ⟨_, rfl, _, rfl, A.p, _, A.dx, _, _, rfl, hS.o, cl, T.na_Standing_stores, rfl, _, rfl, A.st, _, _, _, rfl, rfl, sql hS.st, atI_nat (nV_at hps), _, _, rfl, rfl, _, rfl, ?_⟩
      by_cases hge : x ≤ S.stores.getD p 0
      · have e2 : deedF L room S ⟨.take, c, x⟩ = some { S with loads := S.loads.set c (S.loads.getD c 0 + x), stores := S.stores.set p (S.stores.getD p 0 - x) } := by
          show (if _ then _ else _) = _
          rw [hhe, if_pos ⟨hx.1, hx.2, .inr hge⟩, if_neg h0, if_neg h0]
        rw [e2] at q
        rw [show decide (((S.stores.getD p 0 : Nat) : Int) < ((x : Nat) : Int)) = false from decide_eq_false (by omega)]
        refine iteF ⟨_, rfl, A.p, _, A.dx, _, _, rfl, hS.o, cl, T.na_Standing_stores, rfl, _, rfl, A.st, _, p, _, rfl, rfl, sql hS.st, nV_at hps, _, rfl, _, _, rfl, rfl, A.st, _, _, p, rfl, rfl, hS.st, ixN_nat (by rw [List.length_map]; exact hps), ?_⟩
        dsimp only
        rw [show ((S.stores.getD p 0 : Nat) : Int) - ((x : Nat) : Int) = ((S.stores.getD p 0 - x : Nat) : Int) by omega, nV_set]
        exact last _ { S with stores := S.stores.set p (S.stores.getD p 0 - x) } (sbut_upd (.inr (.inr (.inr (.inl rfl))))) (hS.set_st _) rfl fun H' s' h' => q H' s' h'
      · have e2 : deedF L room S ⟨.take, c, x⟩ = none := by
          show (if _ then _ else _) = _
          rw [hhe, if_neg (fun z => by rcases z.2.2 with z | z; exact h0 z; exact hge z)]
        rw [e2] at q
        rw [show decide (((S.stores.getD p 0 : Nat) : Int) < ((x : Nat) : Int)) = true from decide_eq_true (by omega)]
        exact iteT (q H1 SBut.refl)
/-! ### lay -/
theorem c_Standing_lay (T : Txt K mg) : CalM P w K mg base CX0 2 "Standing" "lay" ["self", "cart", "units"] (sp_dd K .lay) := by
  refine calM T.d_Standing_lay sc_Standing_lay (fun _ _ _ _ _ _ us hl => match us, hl with | [_, _, _], _ => rfl) (fun vs H Q E h => ?_) (fun f cdv A' outer s H vs Q E hr h => ?_)
  · obtain ⟨A, a, b, L, carts, room, S, c, x, rfl, _⟩ := h
    rfl
  · obtain ⟨A, a, b, L, carts, room, S, c, x, rfl, hW, hc, q⟩ := h
    refine ⟨_, (pss_cons (ps_set (i := 3) sc_Standing_lay.nd rfl (Or.inl rfl) (pe_ix (ixL K) (pfld K (pv 0)) (pv 1) (fun _ _ => rfl)))
      (pss_cons (ps_if (pt_not (pt_val (pcall (c_is_whole T) (hr.mono (by omega)) (pa_cons (pv 2) (pa_cons pe_int (pa_cons (pe_ix (ixL K) (pfld K (pv 0)) (pv 1) (fun _ _ => rfl)) pa_nil)))))) (pss_one (ps_ret pe_bl)) pss_nil)
      (pss_cons (ps_augS (pfld K (pv 0)) (pv 1) (getL K) (pv 2) ip_sub set_list)
      (pss_cons (ps_if (pt_cmpR op_eq (pv 3) pe_int (nomark _)) (pss_one (sfldA K (pv 0) (pv 2) in_sub)) (pss_one (ps_augS (pfld K (pv 0)) (pv 3) (getL K) (pv 2) ip_add set_list)))
      (pss_one (ps_ret pe_bl)))))), ?_⟩
    have hS := hW.s
    have cl := T.cl_Standing
    have hsp : c < S.spots.length := by rw [hW.ok.l1]; exact hc
    have hld : c < S.loads.length := by rw [hW.ok.l2]; exact hc
    have hp := hW.ok.sp c
    refine ⟨_, rfl, A.p, _, A.dx, _, _, rfl, hS.o, cl, T.na_Standing_spots, rfl, _, rfl, A.sp, _, _, _, rfl, rfl, sql hS.sp, atI_nat (nV_at hsp), ?_⟩
    dsimp only [gName]
    generalize hhe : S.spots.getD c 0 = p at hp
    show tSeq (tIfS _ _ _) _ _ [some (.ref A.p), some (.int ((c : Nat) : Int)), some (.int ((x : Nat) : Int)), some (.int ((p : Nat) : Int))] H
    refine if1q (fun H' => H' = H) (b := !decide (1 ≤ x ∧ x ≤ S.loads.getD c 0)) (fun Q' q' => ?_) (fun hb H1 s1 => ?_) (fun hb H1 s1 => ?_)
    · refine ⟨_, rfl, _, rfl, A.p, _, A.dx, _, _, rfl, hS.o, cl, T.na_Standing_loads, rfl, _, rfl, A.ld, _, _, _, rfl, rfl, sql hS.ld, atI_nat (nV_at hld), _, _, _, rfl, .inl ⟨_, rfl⟩, _, rfl, ?_⟩
      rw [show isWholeV (.int ((x : Nat) : Int)) 1 ((S.loads.getD c 0 : Nat) : Int) = decide (1 ≤ x ∧ x ≤ S.loads.getD c 0) from decide_eq_decide.mpr ⟨fun z => ⟨by omega, by omega⟩, fun z => ⟨by omega, by omega⟩⟩]
      exact q' _ rfl
    · subst s1
      have e : ¬ (1 ≤ x ∧ x ≤ S.loads.getD c 0) := fun z => by rw [decide_eq_true z] at hb; cases hb
      have e2 : deedF L room S ⟨.lay, c, x⟩ = none := by
        show (if _ then _ else _) = _
        rw [if_neg e]
      rw [e2] at q
      exact q H1 SBut.refl
    subst s1
    have hx : 1 ≤ x ∧ x ≤ S.loads.getD c 0 := by
      cases hd : decide (1 ≤ x ∧ x ≤ S.loads.getD c 0) with
      | true => exact of_decide_eq_true hd
      | false => rw [hd] at hb; cases hb
    dsimp only [tNext]
    refine ⟨_, rfl, A.p, _, A.dx, _, _, rfl, hS.o, cl, T.na_Standing_loads, rfl, _, rfl, A.ld, _, c, _, rfl, rfl, sql hS.ld, nV_at hld, _, rfl, _, _, rfl, rfl, A.ld, _, _, c, rfl, rfl, hS.ld, ixN_nat (by rw [List.length_map]; exact hld), ?_⟩
    dsimp only
    rw [show ((S.loads.getD c 0 : Nat) : Int) - ((x : Nat) : Int) = ((S.loads.getD c 0 - x : Nat) : Int) by omega, nV_set]
    have s2 := sbut_upd (A := A) (H := H1) (o := .lst (nV (S.loads.set c (S.loads.getD c 0 - x)))) (.inr (.inr (.inl rfl)))
    have hS2 := hS.set_ld (S.loads.set c (S.loads.getD c 0 - x))
    generalize upd H1 A.ld (.lst (nV (S.loads.set c (S.loads.getD c 0 - x)))) = H2 at s2 hS2 ⊢
    refine ⟨_, rfl, rfl, _, rfl, ?_⟩
    rw [decI p]
    by_cases h0 : p = 0
    · rw [decide_eq_true h0]
      have e2 : deedF L room S ⟨.lay, c, x⟩ = some { S with loads := S.loads.set c (S.loads.getD c 0 - x), taken := S.taken - x } := by
        show (if _ then _ else _) = _
        rw [hhe, if_pos hx, if_pos h0, if_pos h0]
      rw [e2] at q
      refine iteT ⟨_, rfl, A.p, _, A.dx, _, _, rfl, hS2.o, cl, T.na_Standing_taken, rfl, _, rfl, _, _, rfl, rfl, A.dx, _, hS2.o, by show 9 < 1000; decide, ?_⟩
      exact q _ (s2.trans (sbut_upd (.inl rfl))) (hS2.set_tk _)
    · rw [decide_eq_false h0]
      have hps : p < S.stores.length := by rw [hW.ok.l3]; exact hp
      have e2 : deedF L room S ⟨.lay, c, x⟩ = some { S with loads := S.loads.set c (S.loads.getD c 0 - x), stores := addAt S.stores p x } := by
        show (if _ then _ else _) = _
        rw [hhe, if_pos hx, if_neg h0, if_neg h0]
      rw [e2] at q
      refine iteF ⟨_, rfl, A.p, _, A.dx, _, _, rfl, hS2.o, cl, T.na_Standing_stores, rfl, _, rfl, A.st, _, p, _, rfl, rfl, sql hS2.st, nV_at hps, _, rfl, _, _, rfl, rfl, A.st, _, _, p, rfl, rfl, hS2.st, ixN_nat (by rw [List.length_map]; exact hps), ?_⟩
      dsimp only
      rw [show ((S.stores.getD p 0 : Nat) : Int) + ((x : Nat) : Int) = ((S.stores.getD p 0 + x : Nat) : Int) by omega, nV_set]
      exact q _ (s2.trans (sbut_upd (.inr (.inr (.inr (.inl rfl)))))) (hS2.set_st _)
/-! ### do -/
def DW.str : DW → Str
  | .go => "go"
  | .take => "take"
  | .lay => "lay"
def deedV (d : Deed) : List V := [.str (DW.str d.w), .int ((d.c : Nat) : Int), .int ((d.x : Nat) : Int)]
def sp_do (K : PySem.W.Frag) : Sp := fun vs H Q _ => ∃ A a b L carts room S d t, vs = [.ref A.p, .ref t] ∧ SqT K H t (deedV d) ∧ WAt K H A a b L carts room S ∧ d.c < carts ∧ doneV K H A a b (L.length + 1) (deedF L room S d) Q
theorem c_Standing_do (T : Txt K mg) : CalM P w K mg base CX0 4 "Standing" "do" ["self", "deed"] (sp_do K) := by
  refine calM T.d_Standing_do sc_Standing_do (fun _ _ _ _ _ _ us hl => match us, hl with | [_, _], _ => rfl) (fun vs H Q E h => ?_) (fun f cdv A' outer s H vs Q E hr h => ?_)
  · obtain ⟨A, a, b, L, carts, room, S, d, t, rfl, _⟩ := h
    rfl
  · obtain ⟨A, a, b, L, carts, room, S, d, t, rfl, hd, hW, hc, q⟩ := h
    refine ⟨_, (pss_cons (ps_if (PW.pt (pw_or (pt_not (pt_val (pe_callB (isi K) rfl T.b_isinstance (by decide +kernel) (pa_cons (pv 1) (pa_cons (pe_bltn (v := .ty "tuple") rfl T.b_tuple (by decide +kernel) rfl) pa_nil))))) (pw_or (pt_cmpR op_ne (pe_callB (lenS K) rfl T.b_len PySem.boot_len (pa_cons (pv 1) pa_nil)) pe_int (nomark _)) (pw_or1 (pt_not (pt_val (pe_callB (isi K) rfl T.b_isinstance (by decide +kernel) (pa_cons (pe_ix (ixT K) (pv 1) pe_int (fun _ _ => rfl)) (pa_cons (pe_bltn (v := .ty "str") rfl T.b_str (by decide +kernel) rfl) pa_nil))))))))) (pss_one (ps_ret pe_bl)) pss_nil)
      (pss_cons (ps_if (pt_not (pt_val (pcall (c_is_whole T) (hr.mono (by omega)) (pa_cons (pe_ix (ixT K) (pv 1) pe_int (fun _ _ => rfl)) (pa_cons pe_int (pa_cons (pe_op op_sub (pe_ix (ixT K) (pfld K (pv 0)) pe_int (fun _ _ => rfl)) pe_int) pa_nil)))))) (pss_one (ps_ret pe_bl)) pss_nil)
      (pss_cons (ps_if (pt_cmpR op_eq (pe_ix (ixT K) (pv 1) pe_int (fun _ _ => rfl)) pe_str (nomark _)) (pss_one (ps_ret (pmeth (c_Standing_go T) T.cl_Standing T.me_Standing_go (hr.mono (by omega)) (pv 0) (pa_cons (pe_ix (ixT K) (pv 1) pe_int (fun _ _ => rfl)) (pa_cons (pe_ix (ixT K) (pv 1) pe_int (fun _ _ => rfl)) pa_nil))))) pss_nil)
      (pss_cons (ps_if (pt_cmpR op_eq (pe_ix (ixT K) (pv 1) pe_int (fun _ _ => rfl)) pe_str (nomark _)) (pss_one (ps_ret (pmeth (c_Standing_take T) T.cl_Standing T.me_Standing_take (hr.mono (by omega)) (pv 0) (pa_cons (pe_ix (ixT K) (pv 1) pe_int (fun _ _ => rfl)) (pa_cons (pe_ix (ixT K) (pv 1) pe_int (fun _ _ => rfl)) pa_nil))))) pss_nil)
      (pss_one (ps_ret (pe_and (pe_cmpR op_eq (pe_ix (ixT K) (pv 1) pe_int (fun _ _ => rfl)) pe_str (nomark _)) (pe_one (pmeth (c_Standing_lay T) T.cl_Standing T.me_Standing_lay (hr.mono (by omega)) (pv 0) (pa_cons (pe_ix (ixT K) (pv 1) pe_int (fun _ _ => rfl)) (pa_cons (pe_ix (ixT K) (pv 1) pe_int (fun _ _ => rfl)) pa_nil))))))))))), ?_⟩
    have hS := hW.s
    have cl := T.cl_Standing
    have x0 : ∀ Q' : VK, Q' (.str (DW.str d.w)) H → tOp (rIxT K) (tVar 1) (tC (.int 0)) [some (.ref A.p), some (.ref t)] H Q' := fun Q' q' => ⟨_, rfl, t, _, 0, _, rfl, rfl, hd, atI_nat (j := 0) rfl, q'⟩
    have x1 : ∀ Q' : VK, Q' (.int ((d.c : Nat) : Int)) H → tOp (rIxT K) (tVar 1) (tC (.int 1)) [some (.ref A.p), some (.ref t)] H Q' := fun Q' q' => ⟨_, rfl, t, _, 1, _, rfl, rfl, hd, atI_nat (j := 1) rfl, q'⟩
    have x2 : ∀ Q' : VK, Q' (.int ((d.x : Nat) : Int)) H → tOp (rIxT K) (tVar 1) (tC (.int 2)) [some (.ref A.p), some (.ref t)] H Q' := fun Q' q' => ⟨_, rfl, t, _, 2, _, rfl, rfl, hd, atI_nat (j := 2) rfl, q'⟩
    refine if_no (fun H' => H' = H) (fun Q' q' => ?_) (fun H1 e1 => ?_)
    · refine ⟨_, rfl, .ref t, .ty "tuple", .type "tuple", .type "tuple", true, rfl, .ty "tuple", tyT hd, kit_ty (by decide +kernel), true, rfl, iteF ?_⟩
      refine ⟨_, rfl, t, _, rfl, .inr hd, rfl, false, rfl, iteF ?_⟩
      exact x0 _ ⟨.str (DW.str d.w), .ty "str", .type "str", .type "str", true, rfl, .ty "str", .base (.str _), kit_ty (by decide +kernel), true, rfl, q' _ rfl⟩
    subst e1
    refine if_no (fun H' => H' = H1) (fun Q' q' => ?_) (fun H2 e2 => ?_)
    · refine x1 _ ⟨_, rfl, A.p, _, A.dx, _, _, rfl, hS.o, cl, T.na_Standing_works, rfl, b, _, 0, _, rfl, rfl, hW.k, atI_nat (j := 0) rfl, _, _, rfl, rfl, _, _, _, rfl, .inl ⟨_, rfl⟩, true, congrArg V.bl (decide_eq_true ⟨by omega, by omega⟩), q' _ rfl⟩
    subst e2
    obtain ⟨w', c, x⟩ := d
    dsimp only at hc x0 x1 x2 hd
    cases w' with
    | go =>
      refine x0 _ ⟨rfl, true, rfl, iteT ⟨_, rfl, A.p, A.dx, _, rfl, hS.o, rfl, x1 _ (x2 _ ?_)⟩⟩
      exact ⟨A, a, b, L, carts, room, S, c, x, rfl, hW, hc, q⟩
    | take =>
      refine x0 _ ⟨rfl, false, rfl, iteF (x0 _ ⟨rfl, true, rfl, iteT ⟨_, rfl, A.p, A.dx, _, rfl, hS.o, rfl, x1 _ (x2 _ ?_)⟩⟩)⟩
      exact ⟨A, a, b, L, carts, room, S, c, x, rfl, hW, hc, q⟩
    | lay =>
      refine x0 _ ⟨rfl, false, rfl, iteF (x0 _ ⟨rfl, false, rfl, iteF (x0 _ ⟨rfl, true, rfl, iteT ⟨_, rfl, A.p, A.dx, _, rfl, hS.o, rfl, x1 _ (x2 _ ?_)⟩⟩)⟩)⟩
      exact ⟨A, a, b, L, carts, room, S, c, x, rfl, hW, hc, q⟩
end
end Oa
namespace Oa
open PySem PySem.Spec PyProof.Rows L2 Oat
theorem rep_flat (k : Nat) : (List.replicate k [V.int 0]).flatten = nV (List.replicate k 0) := by
  induction k with
  | zero => rfl
  | succ k ih => rw [List.replicate_succ, List.flatten_cons, ih]; rfl
section
variable {P : Program} {w : World} {K : PySem.W.Frag} {mg : Str → Option Value} {base : Heap}
theorem SameBut.trans {D : Addr} {H H1 H2 : Hp} (a : SameBut D H H1) (b : SameBut D H1 H2) : SameBut D H H2 := fun x o h e => b x o h (a x o h e)
theorem SameBut.t {H H' : Hp} {D x : Addr} {C dx : Addr} {fs : List (Str × V)} {xs : List V} (s : SameBut D H H') (hD : H D = some (.ins C dx fs)) (h : SqT K H x xs) : SqT K H' x xs := by
  rcases h with (h | ⟨o, h⟩) | h
  · exact .inl (.inl (s _ _ (ne_of h hD (fun z => nomatch z)) h))
  · exact .inl (.inr ⟨o, s _ _ (ne_of h hD (fun z => nomatch z)) h⟩)
  · exact .inr h
/-- self.f = e -/
theorem fld_set {f : Str} {tv : TE} {σ : L2.St} {H : Hp} {D : Ends} {x C dx : Addr} {fs : List (Str × V)} {v : V} (hσ : σ[0]? = some (some (.ref x))) (hx : H x = some (.ins C dx fs)) (cl : Cls K C) (na : NoAttr K C f) (hl : fs.length < 1000)
    (hv : ∀ Q : VK, Q v H → tv σ H Q) (q : ∀ H', H' x = some (.ins C dx (putF f v fs)) → SameBut x H H' → D.nx σ H') : sFld K (tVar 0) tv f D σ H :=
  hv _ ⟨_, hσ, x, C, dx, fs, rfl, hx, cl, na, hl, q _ upd_same fun b o hb e => by rw [upd_ne hb]; exact e⟩
theorem fld_setS {f : Str} {tv : TE} {tr : TS} {σ : L2.St} {H : Hp} {D : Ends} {x C dx : Addr} {fs : List (Str × V)} {v : V} (hσ : σ[0]? = some (some (.ref x))) (hx : H x = some (.ins C dx fs)) (cl : Cls K C) (na : NoAttr K C f) (hl : fs.length < 1000)
    (hv : ∀ Q : VK, Q v H → tv σ H Q) (q : ∀ H', H' x = some (.ins C dx (putF f v fs)) → SameBut x H H' → tr D σ H') : tSeq (sFld K (tVar 0) tv f) tr D σ H := fld_set (D := { D with nx := tr D }) hσ hx cl na hl hv q
/-- self.f = [0] * k -/
theorem fld_rep {f : Str} {tk : TE} {σ : L2.St} {H : Hp} {D : Ends} {x C dx : Addr} {fs : List (Str × V)} {k : Nat} (hσ : σ[0]? = some (some (.ref x))) (hx : H x = some (.ins C dx fs)) (cl : Cls K C) (na : NoAttr K C f) (hl : fs.length < 1000) (h1 : k < 1000)
    (hk : ∀ H1, Same H H1 → ∀ Q : VK, Q (.int ((k : Nat) : Int)) H1 → tk σ H1 Q) (q : ∀ sp H', H sp = none → sp ≠ x → H' sp = some (.lst (nV (List.replicate k 0))) → H' x = some (.ins C dx (putF f (.ref sp) fs)) → SameBut x H H' → D.nx σ H') :
    sFld K (tVar 0) (tOp rRep (tLst (tCons (tC (.int 0)) tNil)) tk) f D σ H := by
  refine ⟨by show 1 ≤ sizeLine; decide, fun l nl => ?_⟩
  have s1 := same_new (o := .lst [V.int 0]) nl
  refine hk _ s1 _ ⟨l, _, _, rfl, rfl, upd_same, by omega, by omega, ?_, fun sp nsp => ?_⟩
  · exact Nat.le_trans (show 1 * (((k : Nat) : Int)).toNat ≤ 1000 by omega) (Nat.le_of_lt (small1000 (Nat.le_refl _)))
  have s2 := s1.trans (same_new (o := .lst (List.replicate (((k : Nat) : Int)).toNat [V.int 0]).flatten) nsp)
  have hx2 := s2 _ _ hx
  have hne : sp ≠ x := fun e => by rw [e, s1 _ _ hx] at nsp; cases nsp
  refine ⟨_, hσ, x, C, dx, fs, rfl, hx2, cl, na, hl, ?_⟩
  refine q sp _ (s1.free nsp) hne ?_ upd_same fun b o hb e => by rw [upd_ne hb]; exact s2 _ _ e
  rw [upd_ne hne, upd_same, show (((k : Nat) : Int)).toNat = k by omega, rep_flat]
theorem fld_repS {f : Str} {tk : TE} {tr : TS} {σ : L2.St} {H : Hp} {D : Ends} {x C dx : Addr} {fs : List (Str × V)} {k : Nat} (hσ : σ[0]? = some (some (.ref x))) (hx : H x = some (.ins C dx fs)) (cl : Cls K C) (na : NoAttr K C f) (hl : fs.length < 1000) (h1 : k < 1000)
    (hk : ∀ H1, Same H H1 → ∀ Q : VK, Q (.int ((k : Nat) : Int)) H1 → tk σ H1 Q) (q : ∀ sp H', H sp = none → sp ≠ x → H' sp = some (.lst (nV (List.replicate k 0))) → H' x = some (.ins C dx (putF f (.ref sp) fs)) → SameBut x H H' → tr D σ H') :
    tSeq (sFld K (tVar 0) (tOp rRep (tLst (tCons (tC (.int 0)) tNil)) tk) f) tr D σ H := fld_rep (D := { D with nx := tr D }) hσ hx cl na hl h1 hk q
/-- all of a standing is new -/
structure New (A : SA) (H : Hp) : Prop where
  p : H A.p = none
  sp : H A.sp = none
  ld : H A.ld = none
  st : H A.st = none
  cl : H A.cl = none
  ou : H A.ou = none
  ba : H A.ba = none
theorem SBut.same {A : SA} {H H1 H2 : Hp} (s : SBut A H1 H2) (n : New A H) (h : Same H H1) : Same H H2 := fun x o e =>
  s x o (ne_of_none e n.p) (ne_of_none e n.sp) (ne_of_none e n.ld) (ne_of_none e n.st) (ne_of_none e n.cl) (ne_of_none e n.ou) (ne_of_none e n.ba) (h x o e)
def sp_Sinit (K : PySem.W.Frag) : Sp := fun vs H Q _ => ∃ x dx a b L carts room, vs = [.ref x, .ref a, .ref b] ∧ H x = some (.ins (He.ga K "Standing") dx []) ∧ SqT K H a (landV L) ∧ SqT K H b (worksV carts room) ∧ L.length < 30 ∧ carts ≤ 6 ∧
  ∀ A H', A.p = x → A.dx = dx → H A.sp = none → H A.ld = none → H A.st = none → H A.cl = none → H A.ou = none → H A.ba = none → SameBut x H H' → StAt K H' A a b (L.length + 1) (stand0 (L.length + 1) carts) → Q .non H'
theorem c_Standing___init__ (T : Txt K mg) : CalM P w K mg base CX0 1 "Standing" "__init__" ["self", "land", "works"] (sp_Sinit K) := by
  refine calM T.d_Standing___init__ sc_Standing___init__ (fun _ _ _ _ _ _ us hl => match us, hl with | [_, _, _], _ => rfl) (fun vs H Q E h => ?_) (fun f cdv A' outer s H vs Q E hr h => ?_)
  · obtain ⟨x, dx, a, b, L, carts, room, rfl, _⟩ := h
    rfl
  · obtain ⟨x, dx, a, b, L, carts, room, rfl, hx, ha, hb, hn, h6, q⟩ := h
    refine ⟨_, (pss_cons (sfld K (pv 0) (pv 1))
      (pss_cons (sfld K (pv 0) (pv 2))
      (pss_cons (sfld K (pv 0) (pe_op op_rep (pe_lst (pa_cons pe_int pa_nil)) (pe_ix (ixT K) (pv 2) pe_int (fun _ _ => rfl))))
      (pss_cons (sfld K (pv 0) (pe_op op_rep (pe_lst (pa_cons pe_int pa_nil)) (pe_ix (ixT K) (pv 2) pe_int (fun _ _ => rfl))))
      (pss_cons (sfld K (pv 0) (pe_op op_rep (pe_lst (pa_cons pe_int pa_nil)) (pe_callB (lenS K) rfl T.b_len PySem.boot_len (pa_cons (pv 1) pa_nil))))
      (pss_cons (sfld K (pv 0) pe_int)
      (pss_cons (sfld K (pv 0) (pe_lc (own := [("place", 3)]) (g := gName 3) rfl sc_Standing___init__.nd (pi_range1 rfl T.b_range (pa_cons (pe_callB (lenS K) rfl T.b_len PySem.boot_len (pa_cons (pv 1) pa_nil)) pa_nil)) (blkOk_by (own := [("place", 3)]) (N := ["self", "land", "works", "place"]) (sc := (defScope (inClass c_Standing 0))) (by decide +kernel)) (fun _ _ _ _ _ => pg_name (i := 3) sc_Standing___init__.nd rfl (Or.inl rfl)) (fun _ _ _ _ _ => pts_nil) (fun _ _ _ _ _ => (pe_cmpR op_eq (pv 3) pe_int (nomark _)))))
      (pss_cons (sfld K (pv 0) (pe_op op_rep (pe_lst (pa_cons pe_int pa_nil)) (pe_callB (lenS K) rfl T.b_len PySem.boot_len (pa_cons (pv 1) pa_nil))))
      (pss_one (sfld K (pv 0) (pe_op op_rep (pe_lst (pa_cons pe_int pa_nil)) (pe_callB (lenS K) rfl T.b_len PySem.boot_len (pa_cons (pv 1) pa_nil))))))))))))), ?_⟩
    have cl := T.cl_Standing
    have hll : (landV L).length = L.length + 1 := landV_len L
    -- self.land, self.works
    refine fld_setS rfl hx cl T.na_Standing_land (by show 0 < 1000; decide) (fun Q' q' => ⟨_, rfl, q'⟩) (fun H1 hx1 s1 => ?_)
    refine fld_setS rfl hx1 cl T.na_Standing_works (by show 1 < 1000; decide) (fun Q' q' => ⟨_, rfl, q'⟩) (fun H2 hx2 s2 => ?_)
    have b2 := s1.trans s2
    have fr : ∀ {H' : Hp} {y : Addr}, SameBut x H H' → y ≠ x → H' y = none → H y = none := fun {H' y} s hy e => by
      cases hh : H y with
      | none => rfl
      | some o => rw [s _ _ hy hh] at e; cases e
    have wk : ∀ {H' H1 : Hp} {fs : List (Str × V)} {σ : L2.St}, σ[2]? = some (some (.ref b)) → SameBut x H H' → Same H' H1 → ∀ Q : VK, Q (.int ((carts : Nat) : Int)) H1 → tOp (rIxT K) (tVar 2) (tC (.int 0)) σ H1 Q := fun hσ s s1 Q q => ⟨_, hσ, b, _, 0, _, rfl, rfl, same_t s1 (s.t hx hb), atI_nat (j := 0) rfl, q⟩
    have ln : ∀ {H' H1 : Hp} {fs : List (Str × V)} {σ : L2.St}, σ[1]? = some (some (.ref a)) → SameBut x H H' → Same H' H1 → ∀ Q : VK, Q (.int ((L.length + 1 : Nat) : Int)) H1 → tCB (fun xs H Q => ∃ p ys, xs = [V.ref p] ∧ (SqL K H p ys ∨ SqT K H p ys) ∧ Q (V.int ((ys.length : Nat) : Int)) H) (tCons (tVar 1) tNil) σ H1 Q := fun hσ s s1 Q q => ⟨_, hσ, a, _, rfl, .inr (same_t s1 (s.t hx ha)), by rw [hll]; exact q⟩
    -- self.spots
    refine fld_repS (k := carts) rfl hx2 cl T.na_Standing_spots (by show 2 < 1000; decide) (by omega) (fun H1 s1 => wk (fs := []) rfl b2 s1) (fun sp H3 nsp spx hsp hx3 s3 => ?_)
    have b3 := b2.trans s3
    refine fld_repS (k := carts) rfl hx3 cl T.na_Standing_loads (by show 3 < 1000; decide) (by omega) (fun H1 s1 => wk (fs := []) rfl b3 s1) (fun ld H4 nld ldx hld hx4 s4 => ?_)
    have b4 := b3.trans s4
    have hsp4 := s4 _ _ spx hsp
    have d1 : sp ≠ ld := fun e => by rw [← e, hsp] at nld; cases nld
    refine fld_repS (k := L.length + 1) rfl hx4 cl T.na_Standing_stores (by show 4 < 1000; decide) (by omega) (fun H1 s1 => ln (fs := []) rfl b4 s1) (fun st H5 nst stx hst hx5 s5 => ?_)
    have b5 := b4.trans s5
    have hsp5 := s5 _ _ spx hsp4
    have hld5 := s5 _ _ ldx hld
    have d2 : sp ≠ st := fun e => by rw [← e, hsp4] at nst; cases nst
    have d3 : ld ≠ st := fun e => by rw [← e, hld] at nst; cases nst
    -- self.taken = 0
    refine fld_setS (v := .int 0) rfl hx5 cl T.na_Standing_taken (by show 5 < 1000; decide) (fun Q' q' => q') (fun H6 hx6 s6 => ?_)
    have b6 := b5.trans s6
    have hsp6 := s6 _ _ spx hsp5
    have hld6 := s6 _ _ ldx hld5
    have hst6 := s6 _ _ stx hst
    -- self.called
    refine ⟨_, rfl, a, _, rfl, .inr (b6.t hx ha), _, rfl, by omega, by rw [hll]; omega, fun D nD => ?_⟩
    rw [hll, show (((L.length + 1 : Nat) : Int)).toNat = L.length + 1 by omega]
    refine lc_rel walk_range nD (by omega) (fun _ _ => trivial) (fun _ => true) (fun i v _ => v = .bl (decide (i = 0))) (fun _ _ _ _ _ _ _ h => h) (fun i y H7 H8 l' hi s7 hy yy => ?_) (fun ys H7 s7 hy hp' => ?_)
    · obtain ⟨rfl, rfl⟩ := yy
      dsimp only
      rw [Int.zero_add]
      refine ⟨Same.refl _, rfl, fun Q2 q2 => q2 _ (Same.refl _), fun _ H9 s9 Q2 q2 => ?_⟩
      refine ⟨_, rfl, rfl, q2 _ _ (Same.refl _) ?_⟩
      rw [decI i]
    have eys : ys = calledV (L.length + 1) [0] := by
      rw [show (List.range (L.length + 1)).filter (fun _ => true) = List.range (L.length + 1) by simp] at hp'
      rw [paired_vals (g := fun i => V.bl (decide (i = 0))) (fun _ _ h => h) hp']
      unfold calledV
      simp
    rw [eys] at hy
    have hx7 := s7 _ _ hx6
    have Dx : D ≠ x := fun e => by rw [e, hx6] at nD; cases nD
    have nH : ∀ {y : Addr}, y ≠ x → H6 y = none → H y = none := fun hy e => fr b6 hy e
    refine ⟨_, rfl, x, _, dx, _, rfl, hx7, cl, T.na_Standing_called, by show 6 < 1000; decide, ?_⟩
    have b8 : SameBut x H (upd H7 x (.ins (He.ga K "Standing") dx (putF "called" (.ref D) [("land", .ref a), ("works", .ref b), ("spots", .ref sp), ("loads", .ref ld), ("stores", .ref st), ("taken", .int 0)]))) := b6.trans fun y o hy e => by rw [upd_ne hy]; exact s7 _ _ e
    have hD8 : (upd H7 x (.ins (He.ga K "Standing") dx (putF "called" (.ref D) [("land", .ref a), ("works", .ref b), ("spots", .ref sp), ("loads", .ref ld), ("stores", .ref st), ("taken", .int 0)]))) D = some (.lst (calledV (L.length + 1) [0])) := by rw [upd_ne Dx]; exact hy
    have hsp8 : (upd H7 x (.ins (He.ga K "Standing") dx (putF "called" (.ref D) [("land", .ref a), ("works", .ref b), ("spots", .ref sp), ("loads", .ref ld), ("stores", .ref st), ("taken", .int 0)]))) sp = some (.lst (nV (List.replicate carts 0))) := by rw [upd_ne spx]; exact s7 _ _ hsp6
    have hld8 : (upd H7 x (.ins (He.ga K "Standing") dx (putF "called" (.ref D) [("land", .ref a), ("works", .ref b), ("spots", .ref sp), ("loads", .ref ld), ("stores", .ref st), ("taken", .int 0)]))) ld = some (.lst (nV (List.replicate carts 0))) := by rw [upd_ne ldx]; exact s7 _ _ hld6
    have hst8 : (upd H7 x (.ins (He.ga K "Standing") dx (putF "called" (.ref D) [("land", .ref a), ("works", .ref b), ("spots", .ref sp), ("loads", .ref ld), ("stores", .ref st), ("taken", .int 0)]))) st = some (.lst (nV (List.replicate (L.length + 1) 0))) := by rw [upd_ne stx]; exact s7 _ _ hst6
    have d4 : sp ≠ D := fun e => by rw [← e, hsp6] at nD; cases nD
    have d5 : ld ≠ D := fun e => by rw [← e, hld6] at nD; cases nD
    have d6 : st ≠ D := fun e => by rw [← e, hst6] at nD; cases nD
    have nDH := nH Dx nD
    refine fld_repS (k := L.length + 1) (fs := [("land", .ref a), ("works", .ref b), ("spots", .ref sp), ("loads", .ref ld), ("stores", .ref st), ("taken", .int 0), ("called", .ref D)]) rfl upd_same cl T.na_Standing_outs (by show 7 < 1000; decide) (by omega) (fun H1 s1 => ln (fs := []) rfl b8 s1) (fun ou H9 nou oux hou hx9 s9 => ?_)
    have b9 := b8.trans s9
    have hD9 := s9 _ _ Dx hD8
    have hsp9 := s9 _ _ spx hsp8
    have hld9 := s9 _ _ ldx hld8
    have hst9 := s9 _ _ stx hst8
    have e4 : sp ≠ ou := fun e => by subst e; exact absurd (hsp8.symm.trans nou) (fun z => nomatch z)
    have e5 : ld ≠ ou := fun e => by subst e; exact absurd (hld8.symm.trans nou) (fun z => nomatch z)
    have e6 : st ≠ ou := fun e => by subst e; exact absurd (hst8.symm.trans nou) (fun z => nomatch z)
    have e7 : D ≠ ou := fun e => by subst e; exact absurd (hD8.symm.trans nou) (fun z => nomatch z)
    refine fld_rep (k := L.length + 1) rfl hx9 cl T.na_Standing_backs (by show 8 < 1000; decide) (by omega) (fun H1 s1 => ln (fs := []) rfl b9 s1) (fun ba HA nba bax hba hxA sA => ?_)
    have f4 : sp ≠ ba := fun e => by rw [← e, hsp9] at nba; cases nba
    have f5 : ld ≠ ba := fun e => by rw [← e, hld9] at nba; cases nba
    have f6 : st ≠ ba := fun e => by rw [← e, hst9] at nba; cases nba
    have f7 : D ≠ ba := fun e => by rw [← e, hD9] at nba; cases nba
    have f8 : ou ≠ ba := fun e => by rw [← e, hou] at nba; cases nba
    refine q ⟨x, dx, sp, ld, st, D, ou, ba⟩ HA rfl rfl (fr b2 spx nsp) (fr b3 ldx nld) (fr b4 stx nst) nDH (fr b8 oux nou) (fr b9 bax nba) (b9.trans sA) ?_
    exact ⟨hxA, sA _ _ spx hsp9, sA _ _ ldx hld9, sA _ _ stx hst9, sA _ _ Dx hD9, sA _ _ oux hou, hba, ⟨d1, d2, d4, e4, f4⟩, ⟨d3, d5, e5, f5⟩, ⟨d6, e6, f6⟩, ⟨e7, f7⟩, f8⟩
end
end Oa
namespace Oa
open PySem PySem.Spec PyProof.Rows L2 Oat
section
variable {P : Program} {w : World} {K : PySem.W.Frag} {mg : Str → Option Value} {base : Heap}
/-- the body of a def that may raise -/
theorem calX {CX : CXT} {x : Str} {st : Stmt} {N ps : List Str} {k : Nat} {sp : Sp} (D : Dfn K mg x st []) (S : FnScope N ps (defScope st))
    (bnd : ∀ (kV doc pm : Value) (an : Option Addr) (cdv ct : Value) (us : List Value), us.length = ps.length → bindArgs (PySem.W.fnOf x x (defArgs st) (defBody st) (defScope st) .none kV doc pm an cdv ct) ⟨us, []⟩ = pure (ps.zip us))
    (len : ∀ vs H Q E, sp vs H Q E → vs.length = ps.length)
    (hbody : ∀ (f : Addr) (cdv : Value) (A : Around) (outer : List Env) (s : Shared) (H : Hp) (vs : List V) (Q : VK) (E : XK), Room k (A.deeper (envOfC x (defScope st) s.heap.objs.size f cdv)) → sp vs H Q E →
      ∃ t, PSs (cxOf CX P w K mg base N x (defScope st) f cdv A outer s H E) (defBody st) t ∧ t { nx := fun _ H' => Q .non H', rt := Q } (start N vs) H) : Cal P w K mg base CX (k + 1) x ps sp := by
  obtain ⟨f, fd, g, F⟩ := D
  exact ⟨f, fd, g, F.kp, F.bindsN bnd, F.ok S len fun cdv A outer s H vs Q E hr h => hbody f cdv A outer s H vs Q E hr h⟩
/-! ### done -/
def PlanAt (K : PySem.W.Frag) (H : Hp) (pl : Addr) (ds : List Deed) : Prop := ∃ ts : List Addr, SqL K H pl (ts.map V.ref) ∧ Paired (fun t d => SqT K H t (deedV d)) ts ds
theorem PlanAt.same {H H' : Hp} {pl : Addr} {ds : List Deed} (h : PlanAt K H pl ds) (s : Same H H') : PlanAt K H' pl ds := by
  obtain ⟨ts, h1, h2⟩ := h
  exact ⟨ts, same_l s h1, paired_imp h2 fun t d z => same_t s z⟩
theorem tyL {H : Hp} {a : Addr} {xs : List V} (h : SqL K H a xs) : TyX K H (.ref a) (.type "list") := by
  rcases h with (h | ⟨o, h⟩) | ⟨o, its, n, h1, h2, _⟩
  · exact .base (.lst h)
  · exact .base (.frz h)
  · exact .kList h1 h2
/-- what done asks -/
structure DnAt (K : PySem.W.Frag) (H : Hp) (a b pl : Addr) (L : List Nat) (carts room : Nat) (ds : List Deed) : Prop where
  l : SqT K H a (landV L)
  k : SqT K H b (worksV carts room)
  n : L.length < 30
  wf : WfL L
  c6 : carts ≤ 6
  pl : PlanAt K H pl ds
  len : ds.length ≤ 20000
  cs : ∀ d ∈ ds, d.c < carts
theorem DnAt.same {H H' : Hp} {a b pl : Addr} {L : List Nat} {carts room : Nat} {ds : List Deed} (h : DnAt K H a b pl L carts room ds) (s : Same H H') : DnAt K H' a b pl L carts room ds :=
  ⟨same_t s h.l, same_t s h.k, h.n, h.wf, h.c6, h.pl.same s, h.len, h.cs⟩
def sp_done (K : PySem.W.Frag) : Sp := fun vs H Q E => ∃ a b pl L carts room ds, vs = [.ref a, .ref b, .ref pl] ∧ DnAt K H a b pl L carts room ds ∧
  (∀ (i : Nat), standF L room carts ds = .inl i → ∀ dd H', Same H H' → H dd = none → H' dd = some (.xd [("number", .int ((i : Nat) : Int))]) → E (.ref (He.ga K "BadPlan")) (some dd) H') ∧
  (∀ S, standF L room carts ds = .inr S → ∀ A H', Same H H' → New A H → WAt K H' A a b L carts room S → Q (.ref A.p) H')
theorem run_at {L : List Nat} {room : Nat} : ∀ {ds : List Deed} {j i : Nat} {d : Deed} {s s' : Stand}, ds[j]? = some d → runF L room i s (ds.take j) = .inr s' → (deedF L room s' d = none → runF L room i s ds = .inl (i + j)) ∧ ∀ s2, deedF L room s' d = some s2 → runF L room i s (ds.take (j + 1)) = .inr s2
  | [], j, i, d, s, s', h, _ => by cases h
  | x :: ds, 0, i, d, s, s', h, hr => by
    cases h
    cases hr
    refine ⟨fun h => ?_, fun s2 h => ?_⟩
    · unfold runF
      rw [h]
      rfl
    · show runF L room i s [x] = _
      unfold runF
      rw [h]
      rfl
  | x :: ds, j + 1, i, d, s, s', h, hr => by
    rw [List.take_succ_cons] at hr ⊢
    unfold runF at hr ⊢
    cases hx : deedF L room s x with
    | none => rw [hx] at hr; cases hr
    | some s3 =>
      rw [hx] at hr
      dsimp only at hr ⊢
      have := run_at (ds := ds) (j := j) (i := i + 1) h hr
      rw [show i + (j + 1) = i + 1 + j by omega]
      exact this
theorem log_small {n : Nat} (h : n ≤ 20000) : (((n : Nat) : Int)).natAbs.log2 < 1920 := by
  rw [Int.natAbs_natCast]
  by_cases h0 : n = 0
  · subst h0; decide
  · refine (Nat.log2_lt h0).mpr (Nat.lt_of_le_of_lt h ?_)
    exact Nat.lt_of_lt_of_le (show 20000 < 2 ^ 15 by decide) (Nat.pow_le_pow_right (by decide) (by decide))
theorem c_done (T : Txt K mg) (N : PlanE K mg) : Cal P w K mg base (L2.CX P w) 5 "done" ["land", "works", "plan"] (sp_done K) := by
  refine calX T.d_done sc_done (fun _ _ _ _ _ _ us hl => match us, hl with | [_, _, _], _ => rfl) (fun vs H Q E h => ?_) (fun f cdv A' outer s H vs Q E hr h => ?_)
  · obtain ⟨a, b, pl, L, carts, room, ds, rfl, _⟩ := h
    rfl
  · obtain ⟨a, b, pl, L, carts, room, ds, rfl, hD, qe, q⟩ := h
    refine ⟨_, (pss_cons (ps_if (PW.pt (pw_or (pt_not (pt_val (pe_callB (isi K) rfl T.b_isinstance (by decide +kernel) (pa_cons (pv 2) (pa_cons (pe_bltn (v := .ty "list") rfl T.b_list (by decide +kernel) rfl) pa_nil))))) (pw_or1 (pt_cmpR op_gt (pe_callB (lenS K) rfl T.b_len PySem.boot_len (pa_cons (pv 2) pa_nil)) (pe_glob (v := .int 20000) rfl T.i_MOST_DEEDS.choose_spec ⟨_, rfl⟩) (nomark _))))) (pss_one (ps_raise rfl (takes_of rfl rfl rfl rfl) (pmkP (c_BadPlan___init__ T N) N (hr.mono (by omega)) (pa_cons pe_int pa_nil)))) pss_nil)
      (pss_cons (ps_set (i := 3) sc_done.nd rfl (Or.inl rfl) (pmake (c_Standing___init__ T) T.mk_Standing T.g_Standing (hr.mono (by omega)) (pa_cons (pv 0) (pa_cons (pv 1) pa_nil))))
      (pss_cons (ps_for (passes_of rfl) rfl (pi_enum rfl T.b_enumerate (pa_cons (pv 2) pa_nil)) (pg_tup rfl (pgs_cons (pg_name (i := 4) sc_done.nd rfl (Or.inl rfl)) (pgs_cons (pg_name (i := 5) sc_done.nd rfl (Or.inl rfl)) pgs_nil))) (pss_one (ps_if (pt_not (pt_val (pmeth (c_Standing_do T) T.cl_Standing T.me_Standing_do (hr.mono (by omega)) (pv 3) (pa_cons (pv 5) pa_nil)))) (pss_one (ps_raise rfl (takes_of rfl rfl rfl rfl) (pmkP (c_BadPlan___init__ T N) N (hr.mono (by omega)) (pa_cons (pv 4) pa_nil)))) pss_nil)))
      (pss_one (ps_ret (pv 3)))))), ?_⟩
    obtain ⟨ts, hts, hpr⟩ := hD.pl
    have hlen : ts.length = ds.length := Paired.length hpr
    have hl2 := hD.len
    have cl := T.cl_Standing
    refine if_no (fun H' => H' = H) (fun Q' q' => ?_) (fun H1 e1 => ?_)
    · refine ⟨_, rfl, .ref pl, .ty "list", .type "list", .type "list", true, rfl, .ty "list", tyL hts, kit_ty (by decide +kernel), true, rfl, iteF ?_⟩
      exact ⟨_, rfl, pl, _, rfl, .inl hts, _, _, rfl, rfl, false, congrArg V.bl (decide_eq_false (by rw [List.length_map]; omega)), q' _ rfl⟩
    subst e1
    -- found = Standing(land, works)
    refine ⟨_, rfl, _, rfl, fun x dx nx ndx hne => ?_⟩
    have s0 : Same H1 (upd (upd H1 dx (.own x)) x (.ins (He.ga K "Standing") dx [])) := (same_new ndx).trans (same_new (by rw [upd_ne hne.symm]; exact nx))
    have fr0 : ∀ {y : Addr}, (upd (upd H1 dx (.own x)) x (.ins (He.ga K "Standing") dx [])) y = none → H1 y = none := fun e => s0.free e
    refine ⟨x, dx, a, b, L, carts, room, rfl, upd_same, same_t s0 hD.l, same_t s0 hD.k, hD.n, hD.c6, fun A H2 hp hdx n1 n2 n3 n4 n5 n6 sb hst => ⟨rfl, ?_⟩⟩
    subst hp
    have s2 : Same H1 H2 := fun y o e => sb y o (ne_of_none e nx) (s0 y o e)
    have hnew : New A H1 := ⟨nx, fr0 n1, fr0 n2, fr0 n3, fr0 n4, fr0 n5, fr0 n6⟩
    have hW2 : WAt K H2 A a b L carts room (stand0 (L.length + 1) carts) := ⟨hst, same_t s2 hD.l, same_t s2 hD.k, ok_stand0 (by omega), hD.n, hD.wf⟩
    -- for number, deed in enumerate(plan)
    refine ⟨_, rfl, pl, _, rfl, same_l s2 hts, ?_⟩
    refine for_it (walk_enum (xs := ts.map V.ref)) (fun i σ H3 => ∃ y4 y5 S, σ = [some (.ref a), some (.ref b), some (.ref pl), some (.ref A.p), y4, y5] ∧ Same H1 H3 ∧ WAt K H3 A a b L carts room S ∧ runF L room 0 (stand0 (L.length + 1) carts) (ds.take i) = .inr S)
      ⟨none, none, _, rfl, s2, hW2, rfl⟩ (fun i σ H3 _ p => ?_) (fun i v σ H3 H4 hi p y => ?_) (fun σ H3 p => ?_)
    · obtain ⟨_, _, _, _, s3, _⟩ := p
      exact same_l s3 hts
    · obtain ⟨y4, y5, S, rfl, s3, hW3, hrun⟩ := p
      obtain ⟨Tp, x1, x2, rfl, nT, rfl, hx1, hx2⟩ := y
      have hx1 : V.int ((i : Nat) : Int) = x1 := Option.some.inj hx1
      subst hx1
      have hx2 : (ts.map V.ref)[i]? = some x2 := hx2
      rw [List.getElem?_map] at hx2
      obtain ⟨td, htd, rfl⟩ := Option.map_eq_some_iff.mp hx2
      obtain ⟨d, hd, hdt⟩ := paired_at hpr htd
      have sT : Same H3 (upd H3 Tp (.tup [.int ((i : Nat) : Int), .ref td])) := same_new nT
      refine ⟨Tp, _, rfl, sqt upd_same, rfl, _, _, rfl, _, _, rfl, rfl, ?_⟩
      have s4 := s3.trans sT
      have hW4 : WAt K (upd H3 Tp (.tup [.int ((i : Nat) : Int), .ref td])) A a b L carts room S := hW3.but (sbut_of sT) (hW3.s.same sT) hW3.ok
      have hi' : i < ts.length := by rw [List.length_map] at hi; exact hi
      generalize (upd H3 Tp (.tup [.int ((i : Nat) : Int), .ref td])) = H4 at s4 hW4
      obtain ⟨g1, g2⟩ := run_at hd hrun
      refine ⟨_, rfl, A.p, A.dx, _, rfl, hW4.s.o, rfl, _, rfl, A, a, b, L, carts, room, S, d, td, rfl, same_t s4 hdt, hW4, hD.cs d (List.mem_of_getElem? hd), ?_⟩
      unfold doneV
      cases hdd : deedF L room S d with
      | none =>
        intro H5 s5
        have s5' := s5.same hnew s4
        have hst := g1 hdd
        rw [Nat.zero_add] at hst
        refine ⟨false, rfl, iteT ?_⟩
        refine ⟨_, rfl, raise_bp (log_small (by omega)) fun dd ndd => ?_⟩
        exact qe i hst dd _ (s5'.trans (same_new ndd)) (s5'.free ndd) upd_same
      | some S' =>
        intro H5 s5 st5
        refine ⟨true, rfl, iteF ⟨_, _, S', rfl, s5.same hnew s4, hW4.but s5 st5 (ok_deed hD.wf hW4.ok hdd), g2 S' hdd⟩⟩
    · obtain ⟨y4, y5, S, rfl, s3, hW3, hrun⟩ := p
      rw [List.length_map, hlen, List.take_length] at hrun
      exact ⟨_, rfl, q S hrun A H3 s3 hnew hW3⟩
end
end Oa
namespace Oat
def awayN (S : Stand) : Nat := (S.spots.filter fun p => decide (p ≠ 0)).length
def metAt (W : List (Option Nat)) (S : Stand) (p : Nat) : Bool := ((W.getD p none).isNone || decide (p ∈ S.seen)) && (decide (p = 0) || decide (wantN W p ≤ ((S.stores.getD p 0 : Nat) : Int)))
def meetsB (W : List (Option Nat)) (left : Nat) (S : Stand) : Bool := decide (awayN S ≤ left) && (List.range W.length).all (metAt W S)
def goneL (L : List Nat) (S : Stand) : List (Int × Int) := (List.range L.length).map fun i => (((S.outs.getD (i + 1) 0 : Nat) : Int), ((S.backs.getD (i + 1) 0 : Nat) : Int))
def spareL (L : List Nat) (W : List (Option Nat)) (S : Stand) : List Int := (List.range L.length).map fun i => ((S.stores.getD (i + 1) 0 : Nat) : Int) - wantN W (i + 1)
end Oat
namespace Oa
open PySem PySem.Spec PyProof.Rows L2 Oat
def standD (S : Stand) : PyData := .tuple [natsD S.spots, natsD S.loads, natsD S.stores, .int S.taken]
section
variable {P : Program} {w : World} {K : PySem.W.Frag} {mg : Str → Option Value} {base : Heap}
def badE (K : PySem.W.Frag) (H : Hp) (o : Nat ⊕ Stand) (E : XK) : Prop := ∀ (i : Nat), o = .inl i → ∀ dd H', Same H H' → H dd = none → H' dd = some (.xd [("number", .int ((i : Nat) : Int))]) → E (.ref (He.ga K "BadPlan")) (some dd) H'
theorem badE.same {H H1 : Hp} {o : Nat ⊕ Stand} {E : XK} (h : badE K H o E) (s : Same H H1) : badE K H1 o E := fun i hi dd H' s' n e => h i hi dd H' (s.trans s') (s.free n) e
/-! ### standing -/
def sp_standing (K : PySem.W.Frag) : Sp := fun vs H Q E => ∃ a b pl L carts room ds, vs = [.ref a, .ref b, .ref pl] ∧ DnAt K H a b pl L carts room ds ∧ 1 ≤ carts ∧ 2 ≤ room ∧ room ≤ 20 ∧ badE K H (standF L room carts ds) E ∧
  (∀ S, standF L room carts ds = .inr S → ∀ t H', Same H H' → Dp K H' (.ref t) (standD S) → Q (.ref t) H')
/-! ### gone_over -/
def sp_gone_over (K : PySem.W.Frag) : Sp := fun vs H Q E => ∃ a b pl L carts room ds, vs = [.ref a, .ref b, .ref pl] ∧ DnAt K H a b pl L carts room ds ∧ 1 ≤ carts ∧ 2 ≤ room ∧ room ≤ 20 ∧ badE K H (standF L room carts ds) E ∧
  (∀ S, standF L room carts ds = .inr S → ∀ l H', Same H H' → Dp K H' (.ref l) (pairsD (goneL L S)) → Q (.ref l) H')
theorem paired_flip {α β : Type} {R : α → β → Prop} : ∀ {xs : List α} {ys : List β}, Paired R xs ys → Paired (fun y x => R x y) ys xs
  | _, _, .nil => .nil
  | _, _, .cons a b => .cons a (paired_flip b)
theorem dpAll_pairsI {H : Hp} : ∀ {vs : List V} {ps : List (Int × Int)}, Paired (fun v (x : Int × Int) => ∃ p, v = .ref p ∧ H p = some (.tup [.int x.1, .int x.2])) vs ps → DpAll K H vs (ps.map pairD)
  | _, _, .nil => .nil
  | _, _, .cons a b => by
    obtain ⟨p, rfl, hp⟩ := a
    exact .cons (.tup (sqt hp) (.cons (.int _) (.cons (.int _) .nil))) (dpAll_pairsI b)
/-! ### meets -/
def sp_meets (K : PySem.W.Frag) : Sp := fun vs H Q _ => ∃ A a b d L carts room S W left, vs = [.ref a, .ref A.p, .ref d, .int ((left : Nat) : Int)] ∧ WAt K H A a b L carts room S ∧ SqT K H d (wantsV W) ∧ W.length = L.length + 1 ∧ carts ≤ 6 ∧ ∀ H', Same H H' → Q (.bl (meetsB W left S)) H'
theorem c_meets (T : Txt K mg) : Cal P w K mg base CX0 1 "meets" ["land", "found", "wants", "left"] (sp_meets K) := by
  refine cal0 T.d_meets sc_meets (fun _ _ _ _ _ _ us hl => match us, hl with | [_, _, _, _], _ => rfl) (fun vs H Q E h => ?_) (fun f cdv A' outer s H vs Q E hr h => ?_)
  · obtain ⟨A, a, b, d, L, carts, room, S, W, left, rfl, _⟩ := h
    rfl
  · obtain ⟨A, a, b, d, L, carts, room, S, W, left, rfl, hW, hd, hl, c6, q⟩ := h
    refine ⟨_, (pss_cons (ps_if (pt_cmpR op_gt (pe_callB (lenS K) rfl T.b_len PySem.boot_len (pa_cons (pe_lc (own := [("one", 6)]) (g := gName 6) rfl sc_meets.nd (piL K (pfld K (pv 1))) (blkOk_by (own := [("one", 6)]) (N := ["land", "found", "wants", "left", "place", "want", "one"]) (sc := (defScope s_meets)) (by decide +kernel)) (fun _ _ _ _ _ => pg_name (i := 6) sc_meets.nd rfl (Or.inl rfl)) (fun _ _ _ _ _ => pts_one (pt_cmpR op_ne (pv 6) pe_int (nomark _))) (fun _ _ _ _ _ => (pv 6))) pa_nil)) (pv 3) (nomark _)) (pss_one (ps_ret pe_bl)) pss_nil)
      (pss_cons (ps_for PassesOwn.never rfl (pi_enumT K rfl T.b_enumerate (pa_cons (pv 2) pa_nil)) (pg_tup rfl (pgs_cons (pg_name (i := 4) sc_meets.nd rfl (Or.inl rfl)) (pgs_cons (pg_name (i := 5) sc_meets.nd rfl (Or.inl rfl)) pgs_nil))) (pss_cons (ps_if (PW.pt (pw_and (pt_cmpR op_notN (pv 5) pe_non (nomark _)) (pw_and1 (pt_not (pt_val (pe_ix (ixL K) (pfld K (pv 1)) (pv 4) (fun _ _ => rfl))))))) (pss_one (ps_ret pe_bl)) pss_nil)
      (pss_one (ps_if (PW.pt (pw_and (pt_cmpR op_gt (pv 4) pe_int (nomark _)) (pw_and1 (pt_cmpR op_lt (pe_ix (ixL K) (pfld K (pv 1)) (pv 4) (fun _ _ => rfl)) (peOrT K (pv 5) (pe_one pe_int)) (nomark _))))) (pss_one (ps_ret pe_bl)) pss_nil))))
      (pss_one (ps_ret pe_bl)))), ?_⟩
    have cl := T.cl_Standing
    have h := hW.s
    have hn := hW.n
    have hsl := hW.ok.l1
    refine if1q (Same H) (b := decide (left < awayN S)) (fun Q' q' => ?_) (fun hb H1 s1 => ?_) (fun hb H1 s1 => ?_)
    · refine ⟨_, rfl, A.p, _, A.dx, _, _, rfl, h.o, cl, T.na_Standing_spots, rfl, A.sp, rfl, ⟨_, sql h.sp⟩, fun D nD => ?_⟩
      refine lc_rel (walk_list (xs := nV S.spots)) nD (by rw [List.length_map]; omega) (fun H' s => sql (s _ _ h.sp)) (fun i => decide (S.spots.getD i 0 ≠ 0)) (fun _ _ _ => True) (fun _ _ _ _ _ _ _ h => h) (fun i x H2 H3 l hi s2 hy y => ?_) (fun ys H2 s2 hy hp => ?_)
      · obtain ⟨rfl, hx⟩ := y
        rw [List.length_map] at hi
        rw [nV_at hi] at hx
        cases hx
        refine ⟨Same.refl _, rfl, fun Q2 q2 => ⟨_, rfl, rfl, _, rfl, ?_⟩, fun _ H4 _ Q2 q2 => ⟨_, rfl, q2 _ _ (Same.refl _) trivial⟩⟩
        have := q2 _ (Same.refl _)
        rw [show decide (S.spots.getD i 0 ≠ 0) = (!decide (V.int ((S.spots.getD i 0 : Nat) : Int) = V.int 0)) by rw [decI, ← decide_not]] at this
        exact this
      · have hlen : ys.length = awayN S := by
          rw [← Paired.length hp, List.length_map]
          have := range_filter S.spots 0 (fun p => decide (p ≠ 0)) (fun p => p)
          have h2 := congrArg List.length this
          rw [List.length_map, List.length_map] at h2
          exact h2
        refine ⟨D, _, rfl, .inl (sql hy), _, rfl, _, _, rfl, rfl, _, rfl, ?_⟩
        rw [hlen, show decide (((left : Nat) : Int) < ((awayN S : Nat) : Int)) = decide (left < awayN S) from decide_eq_decide.mpr (by omega)]
        exact q' _ s2
    · have hb := of_decide_eq_true hb
      have e : meetsB W left S = false := by
        unfold meetsB
        rw [decide_eq_false (by omega), Bool.false_and]
      have q := q H1 s1
      rw [e] at q
      exact q
    have hb := of_decide_eq_false hb
    dsimp only [tNext]
    have hd1 := same_t s1 hd
    refine ⟨_, rfl, d, _, rfl, hd1, ?_⟩
    refine for_it (walk_enumT (xs := wantsV W)) (fun i σ H3 => ∃ y4 y5 y6, σ = [some (.ref a), some (.ref A.p), some (.ref d), some (.int ((left : Nat) : Int)), y4, y5, y6] ∧ Same H H3 ∧ ∀ p, p < i → metAt W S p = true)
      ⟨none, none, none, rfl, s1, fun p hp => by omega⟩ (fun i σ H3 _ p => ?_) (fun i v σ H3 H4 hi p y => ?_) (fun σ H3 p => ?_)
    · obtain ⟨_, _, _, _, s3, _⟩ := p
      exact same_t s3 hd
    · obtain ⟨y4, y5, y6, rfl, s3, hdone⟩ := p
      obtain ⟨Tp, x1, x2, rfl, nT, rfl, hx1, hx2⟩ := y
      have hx1 : V.int ((i : Nat) : Int) = x1 := Option.some.inj hx1
      subst hx1
      have hx2 : (wantsV W)[i]? = some x2 := hx2
      rw [wantsV_len] at hi
      rw [wants_at hi] at hx2
      cases hx2
      have sT : Same H3 (upd H3 Tp (.tup [.int ((i : Nat) : Int), optV (W.getD i none)])) := same_new nT
      refine ⟨Tp, _, rfl, sqt upd_same, rfl, _, _, rfl, _, _, rfl, rfl, ?_⟩
      have s4 := s3.trans sT
      generalize (upd H3 Tp (.tup [.int ((i : Nat) : Int), optV (W.getD i none)])) = H4 at s4
      have h4 := h.same s4
      have hst : i < S.stores.length := by rw [hW.ok.l3]; omega
      have hcl : (calledV (L.length + 1) S.seen)[i]? = some (.bl (decide (i ∈ S.seen))) := by
        unfold calledV
        rw [List.getElem?_map, List.getElem?_range (by omega)]
        rfl
      have no : metAt W S i = false → Q (.bl false) H4 := fun hm => by
        have e : meetsB W left S = false := by
          unfold meetsB
          rw [Bool.and_eq_false_iff]
          refine .inr (Bool.eq_false_iff.mpr fun z => ?_)
          have := List.all_eq_true.mp z i (List.mem_range.mpr hi)
          rw [hm] at this
          cases this
        have q := q H4 s4
        rw [e] at q
        exact q
      show tSeq (tIfS _ _ _) _ _ [some (.ref a), some (.ref A.p), some (.ref d), some (.int ((left : Nat) : Int)), some (.int ((i : Nat) : Int)), some (optV (W.getD i none)), y6] H4
      refine if1q (fun H' => H' = H4) (b := !((W.getD i none).isNone || decide (i ∈ S.seen))) (fun Q' q' => ?_) (fun hb2 H5 e5 => ?_) (fun hb2 H5 e5 => ?_)
      · cases hw : W.getD i none with
        | none =>
          rw [hw] at q'
          exact ⟨_, rfl, rfl, false, rfl, iteF (q' _ rfl)⟩
        | some u =>
          rw [hw] at q'
          refine ⟨_, rfl, rfl, true, rfl, iteT ⟨_, rfl, A.p, _, A.dx, _, _, rfl, h4.o, cl, T.na_Standing_called, rfl, _, rfl, A.cl, _, _, _, rfl, rfl, sql h4.cl, atI_nat hcl, _, rfl, ?_⟩⟩
          exact q' _ rfl
      · subst e5
        refine no ?_
        unfold metAt
        cases hh : ((W.getD i none).isNone || decide (i ∈ S.seen)) with
        | false => rfl
        | true => rw [hh] at hb2; cases hb2
      subst e5
      have ok1 : ((W.getD i none).isNone || decide (i ∈ S.seen)) = true := by
        cases hh : ((W.getD i none).isNone || decide (i ∈ S.seen)) with
        | true => rfl
        | false => rw [hh] at hb2; cases hb2
      dsimp only [tNext]
      have go : metAt W S i = true → ∃ y4' y5' y6', ([some (.ref a), some (.ref A.p), some (.ref d), some (.int ((left : Nat) : Int)), some (.int ((i : Nat) : Int)), some (optV (W.getD i none)), y6] : L2.St) = [some (.ref a), some (.ref A.p), some (.ref d), some (.int ((left : Nat) : Int)), y4', y5', y6'] ∧ Same H H5 ∧ ∀ p, p < i + 1 → metAt W S p = true := fun hm =>
        ⟨_, _, _, rfl, s4, fun p hp => by
          rcases Nat.lt_or_eq_of_le (Nat.le_of_lt_succ hp) with z | z
          · exact hdone p z
          · subst z; exact hm⟩
      refine ⟨_, rfl, _, _, rfl, rfl, _, rfl, ?_⟩
      by_cases h0 : i = 0
      · rw [show decide ((0 : Int) < ((i : Nat) : Int)) = false from decide_eq_false (by omega)]
        refine iteF (go ?_)
        unfold metAt
        rw [ok1, decide_eq_true h0]
        rfl
      · rw [show decide ((0 : Int) < ((i : Nat) : Int)) = true from decide_eq_true (by omega)]
        refine iteT ⟨_, rfl, A.p, _, A.dx, _, _, rfl, h4.o, cl, T.na_Standing_stores, rfl, _, rfl, A.st, _, _, _, rfl, rfl, sql h4.st, atI_nat (nV_at hst), _, rfl, ?_⟩
        have hm : metAt W S i = decide (wantN W i ≤ ((S.stores.getD i 0 : Nat) : Int)) := by
          unfold metAt
          rw [ok1, decide_eq_false h0]
          rfl
        refine orz (p := i) (W := W) (fun Q' q' => q') ⟨_, _, rfl, rfl, _, rfl, ?_⟩
        by_cases hc : wantN W i ≤ ((S.stores.getD i 0 : Nat) : Int)
        · rw [show decide (((S.stores.getD i 0 : Nat) : Int) < wantN W i) = false from decide_eq_false (by omega)]
          exact iteF (go (hm.trans (decide_eq_true hc)))
        · rw [show decide (((S.stores.getD i 0 : Nat) : Int) < wantN W i) = true from decide_eq_true (by omega)]
          exact iteT (no (hm.trans (decide_eq_false hc)))
    · obtain ⟨y4, y5, y6, rfl, s3, hdone⟩ := p
      rw [wantsV_len] at hdone
      have e : meetsB W left S = true := by
        unfold meetsB
        rw [decide_eq_true (by omega), Bool.true_and, List.all_eq_true]
        exact fun p hp => hdone p (List.mem_range.mp hp)
      have q := q H3 s3
      rw [e] at q
      exact q
end
end Oa
namespace Oa
open PySem PySem.Spec PyProof.Rows L2 Oat
section
variable {P : Program} {w : World} {K : PySem.W.Frag} {mg : Str → Option Value} {base : Heap}
theorem CaseAt.lf0 {H : Hp} {a b d : Addr} {c : Case} {carts : Nat} (h : CaseAt K H a b d c carts) : CaseAt K H a b d { c with left := 0 } carts := ⟨h.l, h.k, h.w, h.n, h.wf, h.c1, h.c6, h.r2, h.r20, h.wl, h.wo, Nat.zero_le _⟩
/-! ### is_right -/
def sp_is_right (K : PySem.W.Frag) : Sp := fun vs H Q E => ∃ a b d pl c carts ds, vs = [.ref a, .ref b, .ref d, .ref pl, .int ((c.left : Nat) : Int)] ∧ CaseAt K H a b d c carts ∧ c.room ≤ 20 ∧ DnAt K H a b pl c.L carts c.room ds ∧ badE K H (standF c.L c.room carts ds) E ∧
  (∀ S, standF c.L c.room carts ds = .inr S → ∀ H', Same H H' → Q (.bl (meetsB c.W c.left S)) H')
theorem c_is_right (T : Txt K mg) (N : PlanE K mg) : CalK P w K mg base (L2.CX P w) 6 "is_right" ["land", "works", "wants", "plan", "left"] 4 "left" (.int 0) (sp_is_right K) := by
  refine calK T.d_is_right sc_is_right rfl (fun _ _ _ _ _ _ us ws h1 h2 => match us, ws, h1, h2 with | [_, _, _, _], [_], _, _ => rfl) (fun _ _ _ _ _ _ us ws h1 h2 => match us, ws, h1, h2 with | [_, _, _, _], [_], _, _ => ⟨_, _, _, _, _, _, rfl, rfl, rfl⟩) (fun vs H Q E h => ?_) (fun f cdv A' outer s H vs Q E hr h => ?_)
  · obtain ⟨a, b, d, pl, c, carts, ds, rfl, _⟩ := h
    rfl
  · obtain ⟨a, b, d, pl, c, carts, ds, rfl, hC, h20, hD, qe, q⟩ := h
    refine ⟨_, (pss_cons (ps_expr (pcall (c_look_case T) (hr.mono (by omega)) (pa_cons (pv 0) (pa_cons (pv 1) (pa_cons (pv 2) (pa_cons (pv 4) pa_nil))))))
      (pss_one (ps_ret (pcall (c_meets T) (hr.mono (by omega)) (pa_cons (pv 0) (pa_cons (pcallS (c_done T N) (hr.mono (by omega)) (passAt (takes_of rfl rfl rfl rfl)) (pa_cons (pv 0) (pa_cons (pv 1) (pa_cons (pv 3) pa_nil)))) (pa_cons (pv 2) (pa_cons (pv 4) pa_nil)))))))), ?_⟩
    refine ⟨_, rfl, _, rfl, _, rfl, _, rfl, a, b, d, c, carts, rfl, hC, h20, fun H1 s1 => ?_⟩
    have hC1 := hC.same s1
    refine ⟨_, rfl, _, rfl, _, rfl, _, rfl, a, b, pl, c.L, carts, c.room, ds, rfl, hD.same s1, fun i hi dd H' s' n e => qe.same s1 i hi dd H' s' n e, fun S hS A H2 s2 hnew hW => ?_⟩
    refine ⟨_, rfl, _, rfl, A, a, b, d, c.L, carts, c.room, S, c.W, c.left, rfl, hW, same_t s2 hC1.w, hC.wl, hC.c6, fun H3 s3 => ?_⟩
    exact q S hS H3 (s1.trans (s2.trans s3))
/-! ### takes -/
def sp_takes (K : PySem.W.Frag) : Sp := fun vs H Q E => ∃ a b d pl c carts ds, vs = [.ref a, .ref b, .ref d, .ref pl] ∧ CaseAt K H a b d c carts ∧ c.room ≤ 20 ∧ DnAt K H a b pl c.L carts c.room ds ∧ badE K H (standF c.L c.room carts ds) E ∧
  (∀ S, standF c.L c.room carts ds = .inr S → ∀ H', Same H H' → Q (.int (S.taken + wantN c.W 0)) H')
/-! ### spare -/
def sp_spare (K : PySem.W.Frag) : Sp := fun vs H Q E => ∃ a b d pl c carts ds, vs = [.ref a, .ref b, .ref d, .ref pl] ∧ CaseAt K H a b d c carts ∧ c.room ≤ 20 ∧ DnAt K H a b pl c.L carts c.room ds ∧ badE K H (standF c.L c.room carts ds) E ∧
  (∀ S, standF c.L c.room carts ds = .inr S → ∀ l H', Same H H' → H' l = some (.lst ((spareL c.L c.W S).map V.int)) → Q (.ref l) H')
end
end Oa
namespace Oa
open PySem PySem.Spec PyProof.Rows L2 Oat
mutual
theorem noDict_of : ∀ d : PyData, PyData.canLay0 d = true → noDict d = true
  | .none, _ => by simp [noDict]
  | .bool _, _ => by simp [noDict]
  | .int _, _ => by simp [noDict]
  | .str _, _ => by simp [noDict]
  | .list xs, h => by simp only [noDict]; exact noDictAll_of xs (by simpa only [PyData.canLay0] using h)
  | .tuple xs, h => by simp only [noDict]; exact noDictAll_of xs (by simpa only [PyData.canLay0] using h)
  | .dict _, h => by simp [PyData.canLay0] at h
theorem noDictAll_of : ∀ ds : List PyData, PyData.canLayAll0 ds = true → noDictAll ds = true
  | [], _ => by simp [noDictAll]
  | d :: ds, h => by
    simp only [PyData.canLayAll0, Bool.and_eq_true] at h
    simp only [noDictAll, noDict_of d h.1, noDictAll_of ds h.2, Bool.and_self]
end
theorem shaped_stand (S : Stand) : SeqAt.shaped (standD S) = true := by
  have h1 := canLay_nats S.spots
  have h2 := canLay_nats S.loads
  have h3 := canLay_nats S.stores
  have g1 := depth_ints S.spots
  have g2 := depth_ints S.loads
  have g3 := depth_ints S.stores
  unfold SeqAt.shaped standD natsD
  refine Bool.and_eq_true_iff.mpr ⟨by simp only [PyData.canLay0, PyData.canLayAll0, h1, h2, h3, Bool.and_self], decide_eq_true ?_⟩
  simp only [PyData.depth, PyData.depthAll]
  omega
theorem shaped_pairs (ts : List (Int × Int)) : SeqAt.shaped (pairsD ts) = true := by
  have h3 := canLay_pairs ts
  have h4 := depth_pairs ts
  unfold SeqAt.shaped pairsD
  refine Bool.and_eq_true_iff.mpr ⟨by simp only [PyData.canLay0, PyData.canLayAll0, h3, Bool.and_self], decide_eq_true ?_⟩
  simp only [PyData.depth, PyData.depthAll]
  omega
def intsD (l : List Int) : PyData := .list (l.map fun i => .int i)
theorem canLay_ints : ∀ l : List Int, PyData.canLayAll0 (l.map fun i => .int i) = true
  | [] => by simp [PyData.canLayAll0]
  | c :: cs => by simp only [List.map_cons, PyData.canLayAll0, PyData.canLay0, canLay_ints cs, Bool.and_self]
theorem depth_intsI : ∀ l : List Int, PyData.depthAll (l.map fun i => .int i) ≤ 1
  | [] => by simp [PyData.depthAll]
  | c :: cs => by
    have := depth_intsI cs
    simp only [List.map_cons, PyData.depthAll, PyData.depth]
    omega
theorem shaped_ints (l : List Int) : SeqAt.shaped (intsD l) = true := by
  have h1 := canLay_ints l
  have h2 := depth_intsI l
  unfold SeqAt.shaped intsD
  refine Bool.and_eq_true_iff.mpr ⟨by simp only [PyData.canLay0, h1], decide_eq_true ?_⟩
  simp only [PyData.depth]
  omega
def planD (i : Nat) : PyData := .tuple [.str "plan", .int ((i : Nat) : Int)]
theorem shaped_plans (i : Nat) : SeqAt.shaped (.list [planD i, planD i, planD i, planD i, planD i]) = true := by
  unfold SeqAt.shaped planD
  have hs : PyData.strOk "plan" = true := by decide +kernel
  refine Bool.and_eq_true_iff.mpr ⟨by simp only [PyData.canLay0, PyData.canLayAll0, hs, Bool.and_self], decide_eq_true ?_⟩
  simp only [PyData.depth, PyData.depthAll]
  decide
section
variable {P : Program} {w : World} {K : PySem.W.Frag} {mg : Str → Option Value} {base : Heap}
theorem dp_ints {H : Hp} {l : Addr} : ∀ {ns : List Int}, SqL K H l (ns.map V.int) → Dp K H (.ref l) (intsD ns) := fun {ns} h => by
  refine .lst h ?_
  clear h
  induction ns with
  | nil => exact .nil
  | cons x xs ih => exact .cons (.int _) ih
theorem ne_same {H : Hp} {x y : V} {d : PyData} {Q : VK} (hx : Dp K H x d) (hy : Dp K H y d) (hs : SeqAt.shaped d = true) (q : Q (.bl false) H) : rNeD K x y H Q := by
  refine ⟨d, d, hx, hy, hs, hs, ?_⟩
  rw [eqv_refl d (noDict_of d (Bool.and_eq_true_iff.mp hs).1)]
  exact q
theorem eq_same {H : Hp} {x y : V} {d : PyData} {Q : VK} (hx : Dp K H x d) (hy : Dp K H y d) (hs : SeqAt.shaped d = true) (q : Q (.bl true) H) : rEqD K x y H Q := by
  refine ⟨d, d, hx, hy, hs, hs, ?_⟩
  rw [eqv_refl d (noDict_of d (Bool.and_eq_true_iff.mp hs).1)]
  exact q
theorem CaseAt.ts {t n a b d : Addr} {H H' : Hp} {c : Case} {carts : Nat} (h : CaseAt K H a b d c carts) (hT : Town t n H) (s : TSame t n H H') : CaseAt K H' a b d c carts :=
  ⟨hT.t s h.l, hT.t s h.k, hT.t s h.w, h.n, h.wf, h.c1, h.c6, h.r2, h.r20, h.wl, h.wo, h.lf⟩
theorem ifS_no2 {t : TT} {tu tw : TS} {D : Ends} {σ : L2.St} {H : Hp} (S : Hp → Prop) (h : ∀ Q : Bool → Hp → Prop, (∀ H', S H' → Q false H') → t σ H Q) (h2 : ∀ H', S H' → tw D σ H') : tIfS t tu tw D σ H :=
  h _ fun H' s => h2 H' s
end
end Oa
namespace Oa
open PySem PySem.Spec PyProof.Rows L2 Oat
/-! ### things of any kind -/
def isNonV : V → Bool
  | .non => true
  | _ => false
theorem isNonV_eq (v : V) : isNonV v = decide (v = .non) := by
  cases v <;> first | rfl | exact (decide_eq_false (fun z => nomatch z)).symm
/-- of a tuple, by its items; none: no tuple -/
def landB (o : Option (List V)) : Bool := match o with
  | none => false
  | some xs => decide (1 ≤ xs.length ∧ xs.length ≤ 30) && (isNonV (xs.getD 0 (.int 0)) && (List.range (xs.length - 1)).all fun i => isWholeV (xs.getD (i + 1) .non) 0 (i : Int))
def worksB (o : Option (List V)) : Bool := match o with
  | none => false
  | some xs => decide (xs.length = 2) && (isWholeV (xs.getD 0 .non) 1 6 && isWholeV (xs.getD 1 .non) 2 20)
def wantsB (n : Nat) (o : Option (List V)) : Bool := match o with
  | none => false
  | some xs => decide (xs.length = n) && xs.all fun x => isNonV x || isWholeV x 0 999
theorem landB_some (xs : List V) : landB (some xs) = (decide (1 ≤ xs.length ∧ xs.length ≤ 30) && (isNonV (xs.getD 0 (.int 0)) && (List.range (xs.length - 1)).all fun i => isWholeV (xs.getD (i + 1) .non) 0 (i : Int))) := rfl
theorem worksB_some (xs : List V) : worksB (some xs) = (decide (xs.length = 2) && (isWholeV (xs.getD 0 .non) 1 6 && isWholeV (xs.getD 1 .non) 2 20)) := rfl
theorem wantsB_some (n : Nat) (xs : List V) : wantsB n (some xs) = (decide (xs.length = n) && xs.all fun x => isNonV x || isWholeV x 0 999) := rfl
def ThT (K : PySem.W.Frag) (H : Hp) (v : V) (o : Option (List V)) : Prop := match o with
  | none => ∃ t, TyX K H v (.type t) ∧ kitB t "tuple" = some false
  | some xs => ∃ a, v = .ref a ∧ SqT K H a xs ∧ xs.length ≤ 100 ∧ ∀ x ∈ xs, Thing K H x
/-- things that stay things -/
def Flat (v : V) : Prop := v = .non ∨ (∃ i, v = .int i) ∨ (∃ b, v = .bl b) ∨ ∃ s, v = .str s
theorem Flat.thing {K : PySem.W.Frag} {H : Hp} {v : V} (h : Flat v) : Thing K H v := by
  rcases h with rfl | ⟨i, rfl⟩ | ⟨b, rfl⟩ | ⟨s, rfl⟩
  · exact .inr (.inr ⟨(fun i e => nomatch e), "NoneType", TyX.base TyOf.non, by decide +kernel⟩)
  · exact .inl ⟨i, rfl⟩
  · exact .inr (.inl ⟨b, rfl⟩)
  · exact .inr (.inr ⟨(fun i e => nomatch e), "str", TyX.base (TyOf.str _), by decide +kernel⟩)
section
variable {P : Program} {w : World} {K : PySem.W.Frag} {mg : Str → Option Value} {base : Heap}
theorem thing_tup {H H' : Hp} {xs : List V} (hf : ∀ x ∈ xs, Flat x) : ∀ x ∈ xs, Thing K H' x := fun x hx => (hf x hx).thing
theorem tht_non {H : Hp} : ThT K H .non none := ⟨"NoneType", TyX.base TyOf.non, by decide +kernel⟩
theorem tht_int {H : Hp} {i : Int} : ThT K H (.int i) none := ⟨"int", TyX.base (TyOf.int _), by decide +kernel⟩
theorem tht_lst {H : Hp} {a : Addr} {xs : List V} (h : SqL K H a xs) : ThT K H (.ref a) none := ⟨"list", tyL h, by decide +kernel⟩
theorem tht_tup {H : Hp} {a : Addr} {xs : List V} (h : SqT K H a xs) (hl : xs.length ≤ 100) (hf : ∀ x ∈ xs, Flat x) : ThT K H (.ref a) (some xs) := ⟨a, rfl, h, hl, fun x hx => (hf x hx).thing⟩
/-! ### is_land, is_works, is_wants of anything -/
def sp_is_landG (K : PySem.W.Frag) : Sp := fun vs H Q _ => ∃ v o, vs = [v] ∧ (∀ H', Same H H' → ThT K H' v o) ∧ ∀ H', Same H H' → Q (.bl (landB o)) H'
theorem all_bools : ∀ {xs : List Nat} {ys : List V} {g : Nat → Bool}, Paired (fun (i : Nat) v => v = V.bl (g i)) xs ys → ys = (xs.map g).map V.bl
  | _, _, _, .nil => rfl
  | _, _, _, .cons a b => by rw [a, all_bools b]; rfl
theorem c_is_landG (T : Txt K mg) : Cal P w K mg base CX0 2 "is_land" ["thing"] (sp_is_landG K) := by
  refine cal0 T.d_is_land sc_is_land (fun _ _ _ _ _ _ us hl => match us, hl with | [_], _ => rfl) (fun vs H Q E h => ?_) (fun f cdv A outer s H vs Q E hr h => ?_)
  · obtain ⟨v, o, rfl, _⟩ := h
    rfl
  · obtain ⟨v, o, rfl, ht, q⟩ := h
    refine ⟨_, (pss_cons (ps_if (PW.pt (pw_or (pt_not (pt_val (pe_callB (isi K) rfl T.b_isinstance (by decide +kernel) (pa_cons (pv 0) (pa_cons (pe_bltn (v := .ty "tuple") rfl T.b_tuple (by decide +kernel) rfl) pa_nil))))) (pw_or (pt_not (pt_chain op_le op_le pe_int (pe_callB (lenS K) rfl T.b_len PySem.boot_len (pa_cons (pv 0) pa_nil)) (pe_glob (v := .int 30) rfl T.i_MOST_PLACES.choose_spec ⟨_, rfl⟩))) (pw_or1 (pt_cmpR op_notN (pe_ix (ixT K) (pv 0) pe_int (fun _ _ => rfl)) pe_non (nomark _)))))) (pss_one (ps_ret pe_bl)) pss_nil)
      (pss_one (ps_ret (pe_callB (allL K rfl) rfl T.b_all (by decide +kernel) (pa_cons (pe_lc (own := [("k", 1)]) (g := gName 1) rfl sc_is_land.nd (pi_range2 rfl T.b_range (pa_cons pe_int (pa_cons (pe_callB (lenS K) rfl T.b_len PySem.boot_len (pa_cons (pv 0) pa_nil)) pa_nil))) (blkOk_by (own := [("k", 1)]) (N := ["thing", "k"]) (sc := (defScope s_is_land)) (by decide +kernel)) (fun _ _ _ _ _ => pg_name (i := 1) sc_is_land.nd rfl (Or.inl rfl)) (fun _ _ _ _ _ => pts_nil) (fun _ _ _ _ _ => (pcall (c_is_whole T) (hr.mono (by omega)) (pa_cons (pe_ix (ixT K) (pv 0) (pv 1) (fun _ _ => rfl)) (pa_cons pe_int (pa_cons (pe_op op_sub (pv 1) pe_int) pa_nil)))))) pa_nil))))), ?_⟩
    cases o with
    | none =>
      obtain ⟨t, ty, kb⟩ := ht H (Same.refl _)
      exact ⟨_, rfl, v, .ty "tuple", .type t, .type "tuple", false, rfl, .ty "tuple", ty, kit_ty kb, false, rfl, iteT (iteT (q H (Same.refl _)))⟩
    | some xs =>
      obtain ⟨a, rfl, hS, hl, _⟩ := ht H (Same.refl _)
      have no : landB (some xs) = false → Q (.bl false) H := fun h => by have := q H (Same.refl _); rw [h] at this; exact this
      refine ⟨_, rfl, .ref a, .ty "tuple", .type "tuple", .type "tuple", true, rfl, .ty "tuple", tyT hS, kit_ty (by decide +kernel), true, rfl, iteF ?_⟩
      by_cases h1 : 1 ≤ xs.length
      · refine ⟨_, rfl, a, _, rfl, .inr hS, 1, _, rfl, rfl, true, congrArg V.bl (decide_eq_true (by omega)), iteT ?_⟩
        by_cases h30 : xs.length ≤ 30
        · refine ⟨_, _, rfl, rfl, true, congrArg V.bl (decide_eq_true (by omega)), iteF ?_⟩
          have hx0 : xs[0]? = some (xs.getD 0 (.int 0)) := by
            rw [List.getD_eq_getElem?_getD, List.getElem?_eq_getElem (by omega)]
            rfl
          refine ⟨_, rfl, a, _, 0, _, rfl, rfl, hS, atI_nat (j := 0) hx0, rfl, _, rfl, ?_⟩
          rw [← isNonV_eq]
          cases hn : isNonV (xs.getD 0 (.int 0)) with
          | false =>
            refine iteT (no ?_)
            rw [landB_some]
            rw [hn]
            simp
          | true =>
            refine iteF ?_
            refine ⟨_, rfl, a, _, rfl, .inr hS, _, _, rfl, ⟨by decide, by decide, by omega, by omega⟩, fun D hD => ?_⟩
            refine lc_rel walk_range hD (by omega) (fun _ _ => trivial) (fun i => true) (fun i v _ => v = .bl (isWholeV (xs.getD (i + 1) .non) 0 (i : Int))) (fun _ _ _ _ _ _ _ h => h) (fun i x H2 H3 l hi s1 hy y => ?_) (fun ys H2 s1 hy hp => ?_)
            · obtain ⟨rfl, rfl⟩ := y
              have e1 : (1 : Int) + (i : Int) = ((i + 1 : Nat) : Int) := by omega
              have hi1 : i + 1 < xs.length := by omega
              have hxi : xs[i + 1]? = some (xs.getD (i + 1) .non) := by
                rw [List.getD_eq_getElem?_getD, List.getElem?_eq_getElem hi1]
                rfl
              dsimp only
              rw [e1]
              refine ⟨Same.refl _, rfl, fun Q' q' => q' H3 (Same.refl _), fun _ H4 s4 Q' q' => ?_⟩
              obtain ⟨a', ea, hS', _, hth⟩ := ht H4 (s1.trans s4)
              cases ea
              refine ⟨_, rfl, _, rfl, a, _, _, _, rfl, rfl, hS', atI_nat hxi, _, rfl, _, _, rfl, rfl, _, _, _, rfl, hth _ (List.mem_of_getElem? hxi), ?_⟩
              refine q' _ H4 (Same.refl _) ?_
              rw [show ((i + 1 : Nat) : Int) - 1 = (i : Int) by omega]
            · rw [show (List.range ((xs.length : Int) - 1).toNat).filter (fun _ => true) = List.range (xs.length - 1) by rw [show ((xs.length : Int) - 1).toNat = xs.length - 1 by omega]; simp] at hp
              have e := all_bools (g := fun i => isWholeV (xs.getD (i + 1) .non) 0 (i : Int)) hp
              refine ⟨D, _, rfl, sql (by rw [hy, e]), ?_⟩
              have := q H2 s1
              rw [landB_some] at this
              rw [decide_eq_true ⟨h1, h30⟩, hn, Bool.true_and, Bool.true_and] at this
              rw [List.all_map]
              exact this
        · refine ⟨_, _, rfl, rfl, false, congrArg V.bl (decide_eq_false (by omega)), iteT (no ?_)⟩
          rw [landB_some]
          rw [decide_eq_false (fun z => h30 z.2)]
          rfl
      · refine ⟨_, rfl, a, _, rfl, .inr hS, 1, _, rfl, rfl, false, congrArg V.bl (decide_eq_false (by omega)), iteF ⟨false, rfl, iteT (no ?_)⟩⟩
        rw [landB_some]
        rw [decide_eq_false (fun z => h1 z.1)]
        rfl
def sp_is_worksG (K : PySem.W.Frag) : Sp := fun vs H Q _ => ∃ v o, vs = [v] ∧ ThT K H v o ∧ Q (.bl (worksB o)) H
theorem c_is_worksG (T : Txt K mg) : Cal P w K mg base CX0 2 "is_works" ["thing"] (sp_is_worksG K) := by
  refine cal0 T.d_is_works sc_is_works (fun _ _ _ _ _ _ us hl => match us, hl with | [_], _ => rfl) (fun vs H Q E h => ?_) (fun f cdv A outer s H vs Q E hr h => ?_)
  · obtain ⟨v, o, rfl, _⟩ := h
    rfl
  · obtain ⟨v, o, rfl, ht, q⟩ := h
    refine ⟨_, (pss_cons (ps_if (PW.pt (pw_or (pt_not (pt_val (pe_callB (isi K) rfl T.b_isinstance (by decide +kernel) (pa_cons (pv 0) (pa_cons (pe_bltn (v := .ty "tuple") rfl T.b_tuple (by decide +kernel) rfl) pa_nil))))) (pw_or (pt_cmpR op_ne (pe_callB (lenS K) rfl T.b_len PySem.boot_len (pa_cons (pv 0) pa_nil)) pe_int (nomark _)) (pw_or1 (pt_not (pt_val (pcall (c_is_whole T) (hr.mono (by omega)) (pa_cons (pe_ix (ixT K) (pv 0) pe_int (fun _ _ => rfl)) (pa_cons pe_int (pa_cons (pe_glob (v := .int 6) rfl T.i_MOST_CARTS.choose_spec ⟨_, rfl⟩) pa_nil)))))))))) (pss_one (ps_ret pe_bl)) pss_nil)
      (pss_one (ps_ret (pcall (c_is_whole T) (hr.mono (by omega)) (pa_cons (pe_ix (ixT K) (pv 0) pe_int (fun _ _ => rfl)) (pa_cons pe_int (pa_cons (pe_glob (v := .int 20) rfl T.i_MOST_ROOM.choose_spec ⟨_, rfl⟩) pa_nil))))))), ?_⟩
    cases o with
    | none =>
      obtain ⟨t, ty, kb⟩ := ht
      exact ⟨_, rfl, v, .ty "tuple", .type t, .type "tuple", false, rfl, .ty "tuple", ty, kit_ty kb, false, rfl, iteT (iteT q)⟩
    | some xs =>
      obtain ⟨a, rfl, hS, hl, hth⟩ := ht
      refine ⟨_, rfl, .ref a, .ty "tuple", .type "tuple", .type "tuple", true, rfl, .ty "tuple", tyT hS, kit_ty (by decide +kernel), true, rfl, iteF ?_⟩
      rw [worksB_some] at q
      by_cases h2 : xs.length = 2
      · match xs, h2 with
        | [x0, x1], _ =>
          refine ⟨_, rfl, a, _, rfl, .inr hS, rfl, false, rfl, iteF ?_⟩
          refine ⟨_, rfl, a, _, 0, _, rfl, rfl, hS, atI_nat (j := 0) rfl, _, _, _, rfl, hth x0 List.mem_cons_self, _, rfl, ?_⟩
          have q : Q (.bl (isWholeV x0 1 6 && isWholeV x1 2 20)) H := q
          cases hw : isWholeV x0 1 6 with
          | false =>
            rw [hw] at q
            exact iteT q
          | true =>
            rw [hw] at q
            exact iteF (⟨_, rfl, a, _, 1, _, rfl, rfl, hS, atI_nat (j := 1) rfl, _, _, _, rfl, hth x1 (List.mem_cons_of_mem _ List.mem_cons_self), q⟩)
      · rw [decide_eq_false h2] at q
        refine ⟨_, rfl, a, _, rfl, .inr hS, rfl, true, ?_, iteT (iteT q)⟩
        refine congrArg (fun x => V.bl (!x)) (decide_eq_false fun z => ?_)
        injection z with z
        omega
def sp_is_wantsG (K : PySem.W.Frag) : Sp := fun vs H Q _ => ∃ b xs0 v o, vs = [.ref b, v] ∧ SqT K H b xs0 ∧ (∀ H', Same H H' → ThT K H' v o) ∧ ∀ H', Same H H' → Q (.bl (wantsB xs0.length o)) H'
theorem c_is_wantsG (T : Txt K mg) : Cal P w K mg base CX0 2 "is_wants" ["land", "thing"] (sp_is_wantsG K) := by
  refine cal0 T.d_is_wants sc_is_wants (fun _ _ _ _ _ _ us hl => match us, hl with | [_, _], _ => rfl) (fun vs H Q E h => ?_) (fun f cdv A outer s H vs Q E hr h => ?_)
  · obtain ⟨b, xs0, v, o, rfl, _⟩ := h
    rfl
  · obtain ⟨b, xs0, v, o, rfl, hB, ht, q⟩ := h
    refine ⟨_, (pss_cons (ps_if (PW.pt (pw_or (pt_not (pt_val (pe_callB (isi K) rfl T.b_isinstance (by decide +kernel) (pa_cons (pv 1) (pa_cons (pe_bltn (v := .ty "tuple") rfl T.b_tuple (by decide +kernel) rfl) pa_nil))))) (pw_or1 (pt_cmpR op_ne (pe_callB (lenS K) rfl T.b_len PySem.boot_len (pa_cons (pv 1) pa_nil)) (pe_callB (lenS K) rfl T.b_len PySem.boot_len (pa_cons (pv 0) pa_nil)) (nomark _))))) (pss_one (ps_ret pe_bl)) pss_nil)
      (pss_one (ps_ret (pe_callB (allL K rfl) rfl T.b_all (by decide +kernel) (pa_cons (pe_lc (own := [("one", 2)]) (g := gName 2) rfl sc_is_wants.nd (piT K (pv 1)) (blkOk_by (own := [("one", 2)]) (N := ["land", "thing", "one"]) (sc := (defScope s_is_wants)) (by decide +kernel)) (fun _ _ _ _ _ => pg_name (i := 2) sc_is_wants.nd rfl (Or.inl rfl)) (fun _ _ _ _ _ => pts_nil) (fun _ _ _ _ _ => (pe_or (pe_cmpR op_isN (pv 2) pe_non (nomark _)) (pe_one (pcall (c_is_whole T) (hr.mono (by omega)) (pa_cons (pv 2) (pa_cons pe_int (pa_cons (pe_glob (v := .int 999) rfl T.i_MOST_WANT.choose_spec ⟨_, rfl⟩) pa_nil)))))))) pa_nil))))), ?_⟩
    cases o with
    | none =>
      obtain ⟨t, ty, kb⟩ := ht H (Same.refl _)
      exact ⟨_, rfl, v, .ty "tuple", .type t, .type "tuple", false, rfl, .ty "tuple", ty, kit_ty kb, false, rfl, iteT (iteT (q H (Same.refl _)))⟩
    | some xs =>
      obtain ⟨a, rfl, hS, hl, _⟩ := ht H (Same.refl _)
      refine ⟨_, rfl, .ref a, .ty "tuple", .type "tuple", .type "tuple", true, rfl, .ty "tuple", tyT hS, kit_ty (by decide +kernel), true, rfl, iteF ?_⟩
      refine ⟨_, rfl, a, _, rfl, .inr hS, _, rfl, b, _, rfl, .inr hB, rfl, _, rfl, ?_⟩
      simp only [wantsB_some] at q
      by_cases hn : xs.length = xs0.length
      · rw [show decide (V.int ((xs.length : Nat) : Int) = V.int ((xs0.length : Nat) : Int)) = true from decide_eq_true (by rw [hn])]
        rw [decide_eq_true hn, Bool.true_and] at q
        refine iteF ?_
        refine ⟨_, rfl, a, rfl, ⟨_, hS⟩, fun D hD => ?_⟩
        refine lc_rel (walk_tup (xs := xs)) hD (by omega) (fun H' s => same_t s hS) (fun i => true) (fun i v _ => v = .bl (isNonV (xs.getD i .non) || isWholeV (xs.getD i .non) 0 999)) (fun _ _ _ _ _ _ _ h => h) (fun i x H2 H3 l hi s1 hy y => ?_) (fun ys H2 s1 hy hp => ?_)
        · obtain ⟨rfl, hx⟩ := y
          have ex : xs.getD i .non = x := by rw [List.getD_eq_getElem?_getD, hx]; rfl
          refine ⟨Same.refl _, rfl, fun Q' q' => q' H3 (Same.refl _), fun _ H4 s4 Q' q' => ?_⟩
          obtain ⟨a', ea, hS', _, hth⟩ := ht H4 (s1.trans s4)
          rw [ex] at q'
          refine ⟨_, rfl, rfl, _, rfl, ?_⟩
          rw [← isNonV_eq]
          cases hnv : isNonV x with
          | true =>
            rw [hnv] at q'
            exact iteT (q' _ H4 (Same.refl _) rfl)
          | false =>
            rw [hnv, Bool.false_or] at q'
            exact iteF ⟨_, rfl, _, _, _, rfl, hth x (List.mem_of_getElem? hx), q' _ H4 (Same.refl _) rfl⟩
        · rw [show (List.range xs.length).filter (fun _ => true) = List.range xs.length by simp] at hp
          have e := all_bools (g := fun i => isNonV (xs.getD i .non) || isWholeV (xs.getD i .non) 0 999) hp
          refine ⟨D, _, rfl, sql (by rw [hy, e]), ?_⟩
          have e2 : ((List.range xs.length).map fun i => isNonV (xs.getD i .non) || isWholeV (xs.getD i .non) 0 999) = xs.map fun x => isNonV x || isWholeV x 0 999 := by
            have := congrArg (List.map fun x => isNonV x || isWholeV x 0 999) (Oat.range_getD xs .non)
            rw [List.map_map] at this
            exact this
          rw [e2, List.all_map]
          exact q H2 s1
      · rw [show decide (V.int ((xs.length : Nat) : Int) = V.int ((xs0.length : Nat) : Int)) = false from decide_eq_false (fun z => by injection z with z; omega)]
        rw [decide_eq_false hn] at q
        exact iteT (q H (Same.refl _))
end
end Oa
namespace Oa
open PySem PySem.Spec PyProof.Rows L2 Oat
/-! ### a call that keeps one of two promises -/
def spOr (sp1 sp2 : Sp) : Sp := fun vs H Q E => sp1 vs H Q E ∨ sp2 vs H Q E
section
variable {X : Cx} {CX1 CX2 : CXT} {k1 k2 n : Nat} {x kw : Str} {dv : V} {ps : List Str} {sp1 sp2 : Sp} {e ek : Expr} {es : List Expr} {t : TA} {te : TE} {p pos kpos : Pos} {E : L2.St → XK}
theorem passAt0 {σ : L2.St} {E : XK} : PassesAt CX0 X σ E := fun _ _ _ _ _ _ h => h.elim
theorem pcallKO (c1 : CalK X.prog X.w X.K X.mg X.base CX1 k1 x ps n kw dv sp1) (c2 : CalK X.prog X.w X.K X.mg X.base CX2 k2 x ps n kw dv sp2) (hr1 : Room k1 X.A) (hr2 : Room k2 X.A) (hx1 : ∀ σ, PassesAt CX1 X σ (E σ)) (hx2 : ∀ σ, PassesAt CX2 X σ (E σ)) (ha : PA X (e :: es) t) (hk : PE X ek te) (hg : Gl X x := by rfl)
    (hall : (backToKw pos (keywordEach [⟨some kw, ek, kpos⟩] X.env)).all (·.1.isSome) = true := by rfl) (hks : (backToKw pos (keywordEach [⟨some kw, ek, kpos⟩] X.env)).filterMap (·.1) = [kw] := by rfl)
    (hdb : (x == ("__debug__" : Str)) = false := by decide) (he : starEach (e :: es) X.env = (false, eval e X.env) :: starEach es X.env := by rfl)
    (hpl : ((backTo pos (starEach (e :: es) X.env)).any (·.1) || (backToKw pos (keywordEach [⟨some kw, ek, kpos⟩] X.env)).any (·.1.isNone)) = false := by rfl) :
    PE X (.Call (.Name x p) (e :: es) [⟨some kw, ek, kpos⟩] pos) (tCallNS n 1 (spOr sp1 sp2) (fun vs zs => vs ++ zs) E t (tCons te tNil)) := by
  obtain ⟨f, fd, hm, hkp, hb, _, F⟩ := c1
  obtain ⟨f2, fd2, hm2, _, hb2, _, F2⟩ := c2
  rw [hm] at hm2
  cases hm2
  refine ⟨fun pins s σ H Q I h => ?_⟩
  refine wpAny_Call_Name_kw (ld_glob I hg hm ?_ hdb)
  refine PySem.W.callWith_KW (h₀ := X.base) I.ok.mod.kin hkp hall (thn (ha.run pos pins s σ H _ I h) fun us s1 ⟨vs, H1, I1, r, q⟩ => ?_) hpl he
  refine thn ((pk_cons hk pk_nil).run pos pins s1 σ H1 _ I1 q) fun ws s2 ⟨zs, H2, I2, rz, l1, l2, q2⟩ => ⟨I2.kIn, ?_⟩
  rw [hks]
  rcases q2 with q2 | q2
  · exact run_fnNS F hr1 hb (hx1 σ) I2 r rz l1 l2 q2
  · exact run_fnNS F2 hr2 hb2 (hx2 σ) I2 r rz l1 l2 q2
theorem pcallO (c1 : Cal X.prog X.w X.K X.mg X.base CX1 k1 x ps sp1) (c2 : Cal X.prog X.w X.K X.mg X.base CX2 k2 x ps sp2) (hr1 : Room k1 X.A) (hr2 : Room k2 X.A) (hx1 : ∀ σ, PassesAt CX1 X σ (E σ)) (hx2 : ∀ σ, PassesAt CX2 X σ (E σ)) (ha : PA X (e :: es) t) (hg : Gl X x := by rfl)
    (hdb : (x == ("__debug__" : Str)) = false := by decide) (he : starEach (e :: es) X.env = (false, eval e X.env) :: starEach es X.env := by rfl) (hpl : (backTo pos (starEach es X.env)).any (·.1) = false := by rfl) :
    PE X (.Call (.Name x p) (e :: es) [] pos) (tCallS (spOr sp1 sp2) E t) := by
  obtain ⟨f, fd, g, kp, b, F⟩ := c1
  obtain ⟨f2, fd2, g2, _, b2, F2⟩ := c2
  rw [g] at g2
  cases g2
  have h1 := pe_callS (p := p) (pos := pos) F hr1 hg g kp b hx1 ha hdb he hpl
  have h2 := pe_callS (p := p) (pos := pos) F2 hr2 hg g kp b2 hx2 ha hdb he hpl
  refine ⟨fun pins s σ H Q I h => ?_⟩
  refine wpAny_Call_Name_kw (ld_glob I hg g ?_ hdb)
  refine PySem.W.callWith_K (h₀ := X.base) I.ok.mod.kin kp (thn (ha.run pos pins s σ H _ I h) fun us s1 ⟨vs, H1, I1, r, q⟩ => ⟨I1.kIn, ?_⟩) he hpl
  rcases q with q | q
  · exact run_fnS F hr1 b (hx1 σ) I1 r q
  · exact run_fnS F2 hr2 b2 (hx2 σ) I1 r q
end
section
variable {P : Program} {w : World} {K : PySem.W.Frag} {mg : Str → Option Value} {base : Heap}
/-! ### the looks, of things of any kind -/
def sp_look_landX (K : PySem.W.Frag) : Sp := fun vs H Q E => ∃ v o, vs = [v] ∧ (∀ H', Same H H' → ThT K H' v o) ∧ (landB o = false → ∀ H', Same H H' → E (.ref (He.ga K "BadLand")) none H') ∧ (landB o = true → ∀ H', Same H H' → Q .non H')
theorem c_look_landX (T : Txt K mg) (R : Errs K mg) : Cal P w K mg base (L2.CX P w) 3 "look_land" ["land"] (sp_look_landX K) := by
  refine calX T.d_look_land sc_look_land (fun _ _ _ _ _ _ us hl => match us, hl with | [_], _ => rfl) (fun vs H Q E h => ?_) (fun f cdv A outer s H vs Q E hr h => ?_)
  · obtain ⟨v, o, rfl, _⟩ := h
    rfl
  · obtain ⟨v, o, rfl, ht, qe, q⟩ := h
    refine ⟨_, (pss_one (ps_if (pt_not (pt_val (pcall (c_is_landG T) (hr.mono (by omega)) (pa_cons (pv 0) pa_nil)))) (pss_one (ps_raise rfl (takes_of rfl rfl rfl rfl) (pmkE R (by decide +kernel) (by decide +kernel) rfl))) pss_nil)), ?_⟩
    refine ⟨_, rfl, v, o, rfl, ht, fun H1 s1 => ⟨_, rfl, ?_⟩⟩
    cases hl : landB o with
    | false => exact iteT (qe hl H1 s1)
    | true => exact iteF (q hl H1 s1)
def sp_look_worksX (K : PySem.W.Frag) : Sp := fun vs H Q E => ∃ v vL, vs = [v, vL] ∧ ((∃ o, ThT K H v o ∧ worksB o = false ∧ E (.ref (He.ga K "BadWorks")) none H) ∨
  ∃ a c r, v = .ref a ∧ SqT K H a (worksV c r) ∧ 1 ≤ c ∧ c ≤ 6 ∧ 2 ≤ r ∧ r ≤ 20 ∧ Flat vL ∧ (isWholeV vL 0 ((c : Nat) : Int) = false → E (.ref (He.ga K "BadWorks")) none H) ∧ (isWholeV vL 0 ((c : Nat) : Int) = true → Q .non H))
theorem works_ok {c r : Nat} (h1 : 1 ≤ c) (h2 : c ≤ 6) (h3 : 2 ≤ r) (h4 : r ≤ 20) : worksB (some (worksV c r)) = true := by
  show (true && (decide (1 ≤ ((c : Nat) : Int) ∧ ((c : Nat) : Int) ≤ 6) && decide (2 ≤ ((r : Nat) : Int) ∧ ((r : Nat) : Int) ≤ 20))) = true
  rw [decide_eq_true ⟨by omega, by omega⟩, decide_eq_true ⟨by omega, by omega⟩]
  rfl
theorem works_tht {H : Hp} {a : Addr} {c r : Nat} (h : SqT K H a (worksV c r)) : ThT K H (.ref a) (some (worksV c r)) :=
  tht_tup h (by show 2 ≤ 100; decide) fun x hx => by
    simp only [worksV, List.mem_cons, List.mem_nil_iff, or_false] at hx
    rcases hx with rfl | rfl
    · exact .inr (.inl ⟨_, rfl⟩)
    · exact .inr (.inl ⟨_, rfl⟩)
theorem c_look_worksX (T : Txt K mg) (R : Errs K mg) : Cal P w K mg base (L2.CX P w) 3 "look_works" ["works", "left"] (sp_look_worksX K) := by
  refine calX T.d_look_works sc_look_works (fun _ _ _ _ _ _ us hl => match us, hl with | [_, _], _ => rfl) (fun vs H Q E h => ?_) (fun f cdv A outer s H vs Q E hr h => ?_)
  · obtain ⟨v, vL, rfl, _⟩ := h
    rfl
  · obtain ⟨v, vL, rfl, h⟩ := h
    refine ⟨_, (pss_one (ps_if (PW.pt (pw_or (pt_not (pt_val (pcall (c_is_worksG T) (hr.mono (by omega)) (pa_cons (pv 0) pa_nil)))) (pw_or1 (pt_not (pt_val (pcall (c_is_whole T) (hr.mono (by omega)) (pa_cons (pv 1) (pa_cons pe_int (pa_cons (pe_ix (ixT K) (pv 0) pe_int (fun _ _ => rfl)) pa_nil))))))))) (pss_one (ps_raise rfl (takes_of rfl rfl rfl rfl) (pmkE R (by decide +kernel) (by decide +kernel) rfl))) pss_nil)), ?_⟩
    rcases h with ⟨o, ht, hb, qe⟩ | ⟨a, c, r, rfl, hS, c1, c6, r2, r20, hf, qe, q⟩
    · refine ⟨_, rfl, v, o, rfl, ht, _, rfl, ?_⟩
      rw [hb]
      exact iteT (iteT qe)
    · refine ⟨_, rfl, .ref a, _, rfl, works_tht hS, _, rfl, ?_⟩
      rw [works_ok c1 c6 r2 r20]
      refine iteF ⟨_, rfl, _, rfl, a, _, 0, _, rfl, rfl, hS, atI_nat (j := 0) rfl, _, _, _, rfl, hf.thing, _, rfl, ?_⟩
      cases hw : isWholeV vL 0 ((c : Nat) : Int) with
      | false => exact iteT (qe hw)
      | true => exact iteF (q hw)
/-- arguments that look_case refuses, and how -/
def BadC (K : PySem.W.Frag) (H : Hp) (vA vB vD vL : V) (x : Str) : Prop :=
  (x = "BadLand" ∧ ∃ o, (∀ H', Same H H' → ThT K H' vA o) ∧ landB o = false) ∨
  ∃ a L, vA = .ref a ∧ SqT K H a (landV L) ∧ L.length < 30 ∧ WfL L ∧
    ((x = "BadWorks" ∧ ((∃ o, (∀ H', Same H H' → ThT K H' vB o) ∧ worksB o = false) ∨ ∃ b c r, vB = .ref b ∧ SqT K H b (worksV c r) ∧ 1 ≤ c ∧ c ≤ 6 ∧ 2 ≤ r ∧ r ≤ 20 ∧ Flat vL ∧ isWholeV vL 0 ((c : Nat) : Int) = false)) ∨
     (x = "BadWants" ∧ ∃ b c r, vB = .ref b ∧ SqT K H b (worksV c r) ∧ 1 ≤ c ∧ c ≤ 6 ∧ 2 ≤ r ∧ r ≤ 20 ∧ Flat vL ∧ isWholeV vL 0 ((c : Nat) : Int) = true ∧ ∃ o, (∀ H', Same H H' → ThT K H' vD o) ∧ wantsB (L.length + 1) o = false))
theorem BadC.same {H H1 : Hp} {vA vB vD vL : V} {x : Str} (h : BadC K H vA vB vD vL x) (s : Same H H1) : BadC K H1 vA vB vD vL x := by
  rcases h with ⟨rfl, o, h1, h2⟩ | ⟨a, L, rfl, h1, h2, h3, h⟩
  · exact .inl ⟨rfl, o, fun H' s' => h1 H' (s.trans s'), h2⟩
  · refine .inr ⟨a, L, rfl, same_t s h1, h2, h3, ?_⟩
    rcases h with ⟨rfl, h⟩ | ⟨rfl, b, c, r, rfl, g1, g2, g3, g4, g5, g6, g7, o, g8, g9⟩
    · refine .inl ⟨rfl, ?_⟩
      rcases h with ⟨o, g1, g2⟩ | ⟨b, c, r, rfl, g1, g2⟩
      · exact .inl ⟨o, fun H' s' => g1 H' (s.trans s'), g2⟩
      · exact .inr ⟨b, c, r, rfl, same_t s g1, g2⟩
    · exact .inr ⟨rfl, b, c, r, rfl, same_t s g1, g2, g3, g4, g5, g6, g7, o, fun H' s' => g8 H' (s.trans s'), g9⟩
theorem land_tht {H : Hp} {a : Addr} {L : List Nat} (h : SqT K H a (landV L)) (hl : L.length < 30) : ThT K H (.ref a) (some (landV L)) :=
  tht_tup h (by rw [landV_len]; omega) fun x hx => by
    rcases List.mem_cons.mp hx with rfl | hx
    · exact .inl rfl
    · obtain ⟨k, _, rfl⟩ := List.mem_map.mp hx
      exact .inr (.inl ⟨_, rfl⟩)
theorem land_ok {L : List Nat} (hl : L.length < 30) (wf : WfL L) : landB (some (landV L)) = true := by
  rw [landB_some, landV_len, decide_eq_true ⟨by omega, by omega⟩, Bool.true_and]
  show (true && _) = true
  rw [Bool.true_and, List.all_eq_true]
  intro i hi
  have hi := List.mem_range.mp hi
  have e : (landV L).getD (i + 1) .non = .int ((L.getD i 0 : Nat) : Int) := by
    rw [List.getD_eq_getElem?_getD, landV_at (by omega)]
    rfl
  rw [e]
  have := wf i (by omega)
  exact decide_eq_true ⟨by omega, by omega⟩
def sp_bad (K : PySem.W.Frag) : Sp := fun vs H Q E => ∃ vA vB vD vL x, vs = [vA, vB, vD, vL] ∧ BadC K H vA vB vD vL x ∧ ∀ H', Same H H' → E (.ref (He.ga K x)) none H'
theorem c_look_caseX (T : Txt K mg) (R : Errs K mg) : Cal P w K mg base (L2.CX P w) 4 "look_case" ["land", "works", "wants", "left"] (sp_bad K) := by
  refine calX T.d_look_case sc_look_case (fun _ _ _ _ _ _ us hl => match us, hl with | [_, _, _, _], _ => rfl) (fun vs H Q E h => ?_) (fun f cdv A outer s H vs Q E hr h => ?_)
  · obtain ⟨vA, vB, vD, vL, x, rfl, _⟩ := h
    rfl
  · obtain ⟨vA, vB, vD, vL, x, rfl, hb, qe⟩ := h
    refine ⟨_, (pss_cons (ps_expr (pcallS (c_look_landX T R) (hr.mono (by omega)) (passAt (takes_of rfl rfl rfl rfl)) (pa_cons (pv 0) pa_nil)))
      (pss_cons (ps_expr (pcallS (c_look_worksX T R) (hr.mono (by omega)) (passAt (takes_of rfl rfl rfl rfl)) (pa_cons (pv 1) (pa_cons (pv 3) pa_nil))))
      (pss_one (ps_if (pt_not (pt_val (pcall (c_is_wantsG T) (hr.mono (by omega)) (pa_cons (pv 0) (pa_cons (pv 2) pa_nil))))) (pss_one (ps_raise rfl (takes_of rfl rfl rfl rfl) (pmkE R (by decide +kernel) (by decide +kernel) rfl))) pss_nil)))), ?_⟩
    rcases hb with ⟨rfl, o, h1, h2⟩ | ⟨a, L, rfl, h1, h2, h3, h⟩
    · exact ⟨_, rfl, vA, o, rfl, h1, (fun _ H1 s1 => qe H1 s1), fun h => by rw [h2] at h; cases h⟩
    · refine ⟨_, rfl, .ref a, some (landV L), rfl, (fun H' s' => land_tht (same_t s' h1) h2), (fun h => by rw [land_ok h2 h3] at h; cases h), fun _ H1 s1 => ?_⟩
      rcases h with ⟨rfl, h⟩ | ⟨rfl, b, c, r, rfl, g1, g2, g3, g4, g5, g6, g7, o, g8, g9⟩
      · rcases h with ⟨o, g1, g2⟩ | ⟨b, c, r, rfl, g1, g2, g3, g4, g5, g6, g7⟩
        · exact ⟨_, rfl, _, rfl, vB, vL, rfl, .inl ⟨o, g1 H1 s1, g2, qe H1 s1⟩⟩
        · exact ⟨_, rfl, _, rfl, .ref b, vL, rfl, .inr ⟨b, c, r, rfl, same_t s1 g1, g2, g3, g4, g5, g6, (fun _ => qe H1 s1), fun h => by rw [g7] at h; cases h⟩⟩
      · refine ⟨_, rfl, _, rfl, .ref b, vL, rfl, .inr ⟨b, c, r, rfl, same_t s1 g1, g2, g3, g4, g5, g6, (fun h => by rw [g7] at h; cases h), fun _ => ?_⟩⟩
        refine ⟨_, rfl, _, rfl, a, landV L, vD, o, rfl, same_t s1 h1, (fun H' s' => g8 H' (s1.trans s')), fun H2 s2 => ⟨_, rfl, ?_⟩⟩
        rw [landV_len, g9]
        exact iteT (qe H2 (s1.trans s2))
/-! ### the ten, of arguments that look_case refuses -/
theorem c_made (T : Txt K mg) : Cal P w K mg base CX0 0 "made" ["land", "works", "wants", "left"] (fun _ _ _ _ => False) := none_left T.d_made (fun _ _ _ _ _ _ us hl => match us, hl with | [_, _, _, _], _ => rfl) (fun _ _ _ _ h => h)
theorem c_least_bad (T : Txt K mg) (R : Errs K mg) : CalK P w K mg base (L2.CX P w) 5 "least" ["land", "works", "wants", "left"] 3 "left" (.int 0) (sp_bad K) := by
  refine calK T.d_least sc_least rfl (fun _ _ _ _ _ _ us ws h1 h2 => match us, ws, h1, h2 with | [_, _, _], [_], _, _ => rfl) (fun _ _ _ _ _ _ us ws h1 h2 => match us, ws, h1, h2 with | [_, _, _], [_], _, _ => ⟨_, _, _, _, _, _, rfl, rfl, rfl⟩) (fun vs H Q E h => ?_) (fun f cdv A outer s H vs Q E hr h => ?_)
  · obtain ⟨vA, vB, vD, vL, x, rfl, _⟩ := h
    rfl
  · obtain ⟨vA, vB, vD, vL, x, rfl, hb, qe⟩ := h
    refine ⟨_, (pss_cons (ps_expr (pcallS (c_look_caseX T R) (hr.mono (by omega)) (passAt (takes_of rfl rfl rfl rfl)) (pa_cons (pv 0) (pa_cons (pv 1) (pa_cons (pv 2) (pa_cons (pv 3) pa_nil))))))
      (pss_one (ps_ret (pcall (c_least_of T) (hr.mono (by omega)) (pa_cons (pv 0) (pa_cons (pv 1) (pa_cons (pv 2) (pa_cons (pv 3) pa_nil)))))))), ?_⟩
    exact ⟨_, rfl, _, rfl, _, rfl, _, rfl, vA, vB, vD, vL, x, rfl, hb, qe⟩
theorem c_left_beyond_bad (T : Txt K mg) (R : Errs K mg) : CalK P w K mg base (L2.CX P w) 5 "left_beyond" ["land", "works", "wants", "left"] 3 "left" (.int 0) (sp_bad K) := by
  refine calK T.d_left_beyond sc_left_beyond rfl (fun _ _ _ _ _ _ us ws h1 h2 => match us, ws, h1, h2 with | [_, _, _], [_], _, _ => rfl) (fun _ _ _ _ _ _ us ws h1 h2 => match us, ws, h1, h2 with | [_, _, _], [_], _, _ => ⟨_, _, _, _, _, _, rfl, rfl, rfl⟩) (fun vs H Q E h => ?_) (fun f cdv A outer s H vs Q E hr h => ?_)
  · obtain ⟨vA, vB, vD, vL, x, rfl, _⟩ := h
    rfl
  · obtain ⟨vA, vB, vD, vL, x, rfl, hb, qe⟩ := h
    refine ⟨_, (pss_cons (ps_expr (pcallS (c_look_caseX T R) (hr.mono (by omega)) (passAt (takes_of rfl rfl rfl rfl)) (pa_cons (pv 0) (pa_cons (pv 1) (pa_cons (pv 2) (pa_cons (pv 3) pa_nil))))))
      (pss_cons (ps_set (i := 4) sc_left_beyond.nd rfl (Or.inl rfl) (pcall (c_told_way T) (hr.mono (by omega)) (pa_cons (pv 0) (pa_cons (pv 1) (pa_cons (pv 2) (pa_cons (pv 3) pa_nil))))))
      (pss_cons (ps_if (pt_cmpR op_isN (pv 4) pe_non (nomark _)) (pss_one (ps_raise rfl (takes_of rfl rfl rfl rfl) (pmkE R (by decide +kernel) (by decide +kernel) rfl))) pss_nil)
      (pss_one (ps_ret (pv 4)))))), ?_⟩
    exact ⟨_, rfl, _, rfl, _, rfl, _, rfl, vA, vB, vD, vL, x, rfl, hb, qe⟩
theorem c_crossings_bad (T : Txt K mg) (R : Errs K mg) : CalK P w K mg base (L2.CX P w) 5 "crossings" ["land", "works", "wants", "left"] 3 "left" (.int 0) (sp_bad K) := by
  refine calK T.d_crossings sc_crossings rfl (fun _ _ _ _ _ _ us ws h1 h2 => match us, ws, h1, h2 with | [_, _, _], [_], _, _ => rfl) (fun _ _ _ _ _ _ us ws h1 h2 => match us, ws, h1, h2 with | [_, _, _], [_], _, _ => ⟨_, _, _, _, _, _, rfl, rfl, rfl⟩) (fun vs H Q E h => ?_) (fun f cdv A outer s H vs Q E hr h => ?_)
  · obtain ⟨vA, vB, vD, vL, x, rfl, _⟩ := h
    rfl
  · obtain ⟨vA, vB, vD, vL, x, rfl, hb, qe⟩ := h
    refine ⟨_, (pss_cons (ps_expr (pcallS (c_look_caseX T R) (hr.mono (by omega)) (passAt (takes_of rfl rfl rfl rfl)) (pa_cons (pv 0) (pa_cons (pv 1) (pa_cons (pv 2) (pa_cons (pv 3) pa_nil))))))
      (pss_cons (ps_set (i := 4) sc_crossings.nd rfl (Or.inr rfl) (pcall (c_told_way T) (hr.mono (by omega)) (pa_cons (pv 0) (pa_cons (pv 1) (pa_cons (pv 2) (pa_cons (pv 3) pa_nil))))))
      (pss_cons (ps_if (pt_cmpR op_isN (pv 4) pe_non (nomark _)) (pss_one (ps_raise rfl (takes_of rfl rfl rfl rfl) (pmkE R (by decide +kernel) (by decide +kernel) rfl))) pss_nil)
      (pss_cons (ps_set (i := 5) sc_crossings.nd rfl (Or.inr rfl) (pcall (c_tables_of T) (hr.mono (by omega)) (pa_cons (pv 0) (pa_cons (pv 1) (pa_cons (pv 2) (pa_cons (pv 3) pa_nil))))))
      (pss_one (ps_ret (pe_lc (own := [("k", 6)]) (g := gName 6) rfl sc_crossings.nd (pi_range2 rfl T.b_range (pa_cons pe_int (pa_cons (pe_callB (lenS K) rfl T.b_len PySem.boot_len (pa_cons (pv 0) pa_nil)) pa_nil))) (blkOk_by (own := [("k", 6)]) (N := ["land", "works", "wants", "left", "told", "tables", "k"]) (sc := (defScope s_crossings)) (by decide +kernel)) (fun _ _ _ _ _ => pg_name (i := 6) sc_crossings.nd rfl (Or.inl rfl)) (fun _ _ _ _ _ => pts_nil) (fun _ _ _ _ _ => (pe_slice (slA K) (pe_dget (hu_of hr) (pe_ix (ixL K) (pv 5) (pv 6) (fun _ _ => rfl)) (pe_ix (ixL K) (pv 4) (pv 6) (fun _ _ => rfl)) (fun _ _ => rfl)) (po_some pe_int) (po_some pe_int)))))))))), ?_⟩
    exact ⟨_, rfl, _, rfl, _, rfl, _, rfl, vA, vB, vD, vL, x, rfl, hb, qe⟩
theorem c_blocked_bad (T : Txt K mg) (R : Errs K mg) : CalK P w K mg base (L2.CX P w) 5 "blocked" ["land", "works", "wants", "left"] 3 "left" (.int 0) (sp_bad K) := by
  refine calK T.d_blocked sc_blocked rfl (fun _ _ _ _ _ _ us ws h1 h2 => match us, ws, h1, h2 with | [_, _, _], [_], _, _ => rfl) (fun _ _ _ _ _ _ us ws h1 h2 => match us, ws, h1, h2 with | [_, _, _], [_], _, _ => ⟨_, _, _, _, _, _, rfl, rfl, rfl⟩) (fun vs H Q E h => ?_) (fun f cdv A outer s H vs Q E hr h => ?_)
  · obtain ⟨vA, vB, vD, vL, x, rfl, _⟩ := h
    rfl
  · obtain ⟨vA, vB, vD, vL, x, rfl, hb, qe⟩ := h
    refine ⟨_, (pss_cons (ps_expr (pcallS (c_look_caseX T R) (hr.mono (by omega)) (passAt (takes_of rfl rfl rfl rfl)) (pa_cons (pv 0) (pa_cons (pv 1) (pa_cons (pv 2) (pa_cons (pv 3) pa_nil))))))
      (pss_cons (ps_set (i := 4) sc_blocked.nd rfl (Or.inr rfl) (pcall (c_tables_of T) (hr.mono (by omega)) (pa_cons (pv 0) (pa_cons (pv 1) (pa_cons (pv 2) (pa_cons (pv 3) pa_nil))))))
      (pss_one (ps_ret (pe_lc (own := [("k", 5)]) (g := gName 5) rfl sc_blocked.nd (pi_range1 rfl T.b_range (pa_cons (pe_callB (lenS K) rfl T.b_len PySem.boot_len (pa_cons (pv 0) pa_nil)) pa_nil)) (blkOk_by (own := [("k", 5)]) (N := ["land", "works", "wants", "left", "tables", "k", "one"]) (sc := (defScope s_blocked)) (by decide +kernel)) (fun _ _ _ _ _ => pg_name (i := 5) sc_blocked.nd rfl (Or.inl rfl)) (fun _ _ _ _ _ => pts_one (PW.pt (pw_and (pt_cmpR (op_eqE hr.units0) (pe_ix (ixL K) (pv 4) (pv 5) (fun _ _ => rfl)) pe_dnewK (nomark _)) (pw_and1 (pt_val (pe_callB (allL K rfl) rfl T.b_all (by decide +kernel) (pa_cons (pe_lc (own := [("one", 6)]) (g := gName 6) rfl sc_blocked.nd (piL K (pcall (c_beyond T) (hr.mono (by omega)) (pa_cons (pv 0) (pa_cons (pv 5) pa_nil)))) (blkOk_by (own := [("one", 6)]) (N := ["land", "works", "wants", "left", "tables", "k", "one"]) (sc := _) (by kernel_rfl)) (fun _ _ _ _ _ => pg_name (i := 6) sc_blocked.nd rfl (Or.inl rfl)) (fun _ _ _ _ _ => pts_nil) (fun _ _ _ _ _ => (pe_cmpR (op_neE hr.units0) (pe_ix (ixL K) (pv 4) (pv 6) (fun _ _ => rfl)) pe_dnewK (nomark _)))) pa_nil))))))) (fun _ _ _ _ _ => (pv 5))))))), ?_⟩
    exact ⟨_, rfl, _, rfl, _, rfl, _, rfl, vA, vB, vD, vL, x, rfl, hb, qe⟩
theorem c_price_of_room_bad (T : Txt K mg) (R : Errs K mg) : CalK P w K mg base (L2.CX P w) 5 "price_of_room" ["land", "works", "wants", "left"] 3 "left" (.int 0) (sp_bad K) := by
  refine calK T.d_price_of_room sc_price_of_room rfl (fun _ _ _ _ _ _ us ws h1 h2 => match us, ws, h1, h2 with | [_, _, _], [_], _, _ => rfl) (fun _ _ _ _ _ _ us ws h1 h2 => match us, ws, h1, h2 with | [_, _, _], [_], _, _ => ⟨_, _, _, _, _, _, rfl, rfl, rfl⟩) (fun vs H Q E h => ?_) (fun f cdv A outer s H vs Q E hr h => ?_)
  · obtain ⟨vA, vB, vD, vL, x, rfl, _⟩ := h
    rfl
  · obtain ⟨vA, vB, vD, vL, x, rfl, hb, qe⟩ := h
    refine ⟨_, (pss_cons (ps_expr (pcallS (c_look_caseX T R) (hr.mono (by omega)) (passAt (takes_of rfl rfl rfl rfl)) (pa_cons (pv 0) (pa_cons (pv 1) (pa_cons (pv 2) (pa_cons (pv 3) pa_nil))))))
      (pss_cons (ps_set (i := 4) sc_price_of_room.nd rfl (Or.inl rfl) (pcall (c_least_of T) (hr.mono (by omega)) (pa_cons (pv 0) (pa_cons (pv 1) (pa_cons (pv 2) (pa_cons (pv 3) pa_nil))))))
      (pss_cons (ps_if (pt_cmpR op_isN (pv 4) pe_non (nomark _)) (pss_one (ps_raise rfl (takes_of rfl rfl rfl rfl) (pmkE R (by decide +kernel) (by decide +kernel) rfl))) pss_nil)
      (pss_one (ps_ret (pe_op op_sub (pv 4) (pcall (c_least_of T) (hr.mono (by omega)) (pa_cons (pv 0) (pa_cons (pe_tup (pa_cons (pe_ix (ixT K) (pv 1) pe_int (fun _ _ => rfl)) (pa_cons (pe_op op_add (pe_ix (ixT K) (pv 1) pe_int (fun _ _ => rfl)) pe_int) pa_nil))) (pa_cons (pv 2) (pa_cons (pv 3) pa_nil))))))))))), ?_⟩
    exact ⟨_, rfl, _, rfl, _, rfl, _, rfl, vA, vB, vD, vL, x, rfl, hb, qe⟩
theorem c_plan_of_bad (T : Txt K mg) (R : Errs K mg) : CalK P w K mg base (L2.CX P w) 5 "plan_of" ["land", "works", "wants", "left"] 3 "left" (.int 0) (sp_bad K) := by
  refine calK T.d_plan_of sc_plan_of rfl (fun _ _ _ _ _ _ us ws h1 h2 => match us, ws, h1, h2 with | [_, _, _], [_], _, _ => rfl) (fun _ _ _ _ _ _ us ws h1 h2 => match us, ws, h1, h2 with | [_, _, _], [_], _, _ => ⟨_, _, _, _, _, _, rfl, rfl, rfl⟩) (fun vs H Q E h => ?_) (fun f cdv A outer s H vs Q E hr h => ?_)
  · obtain ⟨vA, vB, vD, vL, x, rfl, _⟩ := h
    rfl
  · obtain ⟨vA, vB, vD, vL, x, rfl, hb, qe⟩ := h
    refine ⟨_, (pss_cons (ps_expr (pcallS (c_look_caseX T R) (hr.mono (by omega)) (passAt (takes_of rfl rfl rfl rfl)) (pa_cons (pv 0) (pa_cons (pv 1) (pa_cons (pv 2) (pa_cons (pv 3) pa_nil))))))
      (pss_cons (ps_set (i := 4) sc_plan_of.nd rfl (Or.inl rfl) (pcall (c_least_of T) (hr.mono (by omega)) (pa_cons (pv 0) (pa_cons (pv 1) (pa_cons (pv 2) (pa_cons (pv 3) pa_nil))))))
      (pss_cons (ps_if (pt_cmpR op_isN (pv 4) pe_non (nomark _)) (pss_one (ps_raise rfl (takes_of rfl rfl rfl rfl) (pmkE R (by decide +kernel) (by decide +kernel) rfl))) pss_nil)
      (pss_cons (ps_if (pt_cmpR op_gt (pv 4) (pe_glob (v := .int 1500) rfl T.i_MOST_MADE.choose_spec ⟨_, rfl⟩) (nomark _)) (pss_one (ps_raise rfl (takes_of rfl rfl rfl rfl) (pmkE R (by decide +kernel) (by decide +kernel) rfl))) pss_nil)
      (pss_one (ps_ret (pcall (c_made T) (hr.mono (by omega)) (pa_cons (pv 0) (pa_cons (pv 1) (pa_cons (pv 2) (pa_cons (pv 3) pa_nil))))))))))), ?_⟩
    exact ⟨_, rfl, _, rfl, _, rfl, _, rfl, vA, vB, vD, vL, x, rfl, hb, qe⟩
theorem c_paper_bad (T : Txt K mg) (R : Errs K mg) : CalK P w K mg base (L2.CX P w) 5 "paper" ["land", "works", "wants", "left"] 3 "left" (.int 0) (sp_bad K) := by
  refine calK T.d_paper sc_paper rfl (fun _ _ _ _ _ _ us ws h1 h2 => match us, ws, h1, h2 with | [_, _, _], [_], _, _ => rfl) (fun _ _ _ _ _ _ us ws h1 h2 => match us, ws, h1, h2 with | [_, _, _], [_], _, _ => ⟨_, _, _, _, _, _, rfl, rfl, rfl⟩) (fun vs H Q E h => ?_) (fun f cdv A outer s H vs Q E hr h => ?_)
  · obtain ⟨vA, vB, vD, vL, x, rfl, _⟩ := h
    rfl
  · obtain ⟨vA, vB, vD, vL, x, rfl, hb, qe⟩ := h
    refine ⟨_, (pss_cons (ps_expr (pcallS (c_look_caseX T R) (hr.mono (by omega)) (passAt (takes_of rfl rfl rfl rfl)) (pa_cons (pv 0) (pa_cons (pv 1) (pa_cons (pv 2) (pa_cons (pv 3) pa_nil))))))
      (pss_one (ps_ret (pe_lc (own := [("table", 4)]) (g := gName 4) rfl sc_paper.nd (piL K (pcall (c_tables_of T) (hr.mono (by omega)) (pa_cons (pv 0) (pa_cons (pv 1) (pa_cons (pv 2) (pa_cons (pv 3) pa_nil)))))) (blkOk_by (own := [("table", 4)]) (N := ["land", "works", "wants", "left", "table", "some"]) (sc := (defScope s_paper)) (by decide +kernel)) (fun _ _ _ _ _ => pg_name (i := 4) sc_paper.nd rfl (Or.inr rfl)) (fun _ _ _ _ _ => pts_nil) (fun _ _ _ _ _ => (pe_dc (own := [("some", 5)]) (g := gName 5) rfl sc_paper.nd (piL K (pe_callB (call_sortedDI rfl) rfl T.b_sorted (by decide +kernel) (pa_cons (pv 4) pa_nil))) (blkOk_by (own := [("some", 5)]) (N := ["land", "works", "wants", "left", "table", "some"]) (sc := _) (by kernel_rfl)) (fun _ _ _ _ _ => pg_name (i := 5) sc_paper.nd rfl (Or.inl rfl)) (fun _ _ _ _ _ => pts_nil) (fun _ _ _ _ _ => (pv 5)) (fun _ _ _ _ _ => (pe_ix (ixT K) (pe_dget (hu_of hr) (pv 4) (pv 5) (fun _ _ => rfl)) pe_int (fun _ _ => rfl))))))))), ?_⟩
    exact ⟨_, rfl, _, rfl, _, rfl, _, rfl, vA, vB, vD, vL, x, rfl, hb, qe⟩
def sp_bad_is_right (K : PySem.W.Frag) : Sp := fun vs H Q E => ∃ vA vB vD vT vL x, vs = [vA, vB, vD, vT, vL] ∧ BadC K H vA vB vD vL x ∧ ∀ H', Same H H' → E (.ref (He.ga K x)) none H'
theorem c_is_right_bad (T : Txt K mg) (R : Errs K mg) (N : PlanE K mg) : CalK P w K mg base (L2.CX P w) 6 "is_right" ["land", "works", "wants", "plan", "left"] 4 "left" (.int 0) (sp_bad_is_right K) := by
  refine calK T.d_is_right sc_is_right rfl (fun _ _ _ _ _ _ us ws h1 h2 => match us, ws, h1, h2 with | [_, _, _, _], [_], _, _ => rfl) (fun _ _ _ _ _ _ us ws h1 h2 => match us, ws, h1, h2 with | [_, _, _, _], [_], _, _ => ⟨_, _, _, _, _, _, rfl, rfl, rfl⟩) (fun vs H Q E h => ?_) (fun f cdv A outer s H vs Q E hr h => ?_)
  · obtain ⟨vA, vB, vD, vT, vL, x, rfl, _⟩ := h
    rfl
  · obtain ⟨vA, vB, vD, vT, vL, x, rfl, hb, qe⟩ := h
    refine ⟨_, (pss_cons (ps_expr (pcallS (c_look_caseX T R) (hr.mono (by omega)) (passAt (takes_of rfl rfl rfl rfl)) (pa_cons (pv 0) (pa_cons (pv 1) (pa_cons (pv 2) (pa_cons (pv 4) pa_nil))))))
      (pss_one (ps_ret (pcall (c_meets T) (hr.mono (by omega)) (pa_cons (pv 0) (pa_cons (pcallS (c_done T N) (hr.mono (by omega)) (passAt (takes_of rfl rfl rfl rfl)) (pa_cons (pv 0) (pa_cons (pv 1) (pa_cons (pv 3) pa_nil)))) (pa_cons (pv 2) (pa_cons (pv 4) pa_nil)))))))), ?_⟩
    exact ⟨_, rfl, _, rfl, _, rfl, _, rfl, vA, vB, vD, vL, x, rfl, hb, qe⟩
def sp_bad_bound (K : PySem.W.Frag) : Sp := fun vs H Q E => ∃ vA vB vD vT vL x, vs = [vA, vB, vD, vT, vL] ∧ BadC K H vA vB vD vL x ∧ ∀ H', Same H H' → E (.ref (He.ga K x)) none H'
theorem c_bound_bad (T : Txt K mg) (R : Errs K mg) : CalK P w K mg base (L2.CX P w) 5 "bound" ["land", "works", "wants", "table", "left"] 4 "left" (.int 0) (sp_bad_bound K) := by
  refine calK T.d_bound sc_bound rfl (fun _ _ _ _ _ _ us ws h1 h2 => match us, ws, h1, h2 with | [_, _, _, _], [_], _, _ => rfl) (fun _ _ _ _ _ _ us ws h1 h2 => match us, ws, h1, h2 with | [_, _, _, _], [_], _, _ => ⟨_, _, _, _, _, _, rfl, rfl, rfl⟩) (fun vs H Q E h => ?_) (fun f cdv A outer s H vs Q E hr h => ?_)
  · obtain ⟨vA, vB, vD, vT, vL, x, rfl, _⟩ := h
    rfl
  · obtain ⟨vA, vB, vD, vT, vL, x, rfl, hb, qe⟩ := h
    refine ⟨_, (pss_cons (ps_expr (pcallS (c_look_caseX T R) (hr.mono (by omega)) (passAt (takes_of rfl rfl rfl rfl)) (pa_cons (pv 0) (pa_cons (pv 1) (pa_cons (pv 2) (pa_cons (pv 4) pa_nil))))))
      (pss_cons (ps_if (pt_not (pt_val (pcall (c_is_paper T) (hr.mono (by omega)) (pa_cons (pv 0) (pa_cons (pv 3) (pa_cons (pv 4) pa_nil)))))) (pss_one (ps_raise rfl (takes_of rfl rfl rfl rfl) (pmkE R (by decide +kernel) (by decide +kernel) rfl))) pss_nil)
      (pss_cons (ps_for (passes_of rfl) rfl (pi_range1 rfl T.b_range (pa_cons (pe_callB (lenS K) rfl T.b_len PySem.boot_len (pa_cons (pv 0) pa_nil)) pa_nil)) (pg_name (i := 5) sc_bound.nd rfl (Or.inl rfl)) (pss_cons (ps_setLc (i := 6) (own := [("k", 8)]) (g := gName 8) rfl sc_bound.nd rfl rfl (sw_true rfl rfl rfl (by decide +kernel)) (piL K (pcall (c_beyond T) (hr.mono (by omega)) (pa_cons (pv 0) (pa_cons (pv 5) pa_nil)))) (blkOk_by (own := [("k", 8)]) (N := ["land", "works", "wants", "table", "left", "place", "rows", "some", "k"]) (sc := (defScope s_bound)) (by decide +kernel)) (fun _ _ _ _ _ => pg_name (i := 8) sc_bound.nd rfl (Or.inl rfl)) (fun _ _ _ _ _ => pts_nil) (fun _ _ _ _ _ => (pe_ix (ixL K) (pv 3) (pv 8) (fun _ _ => rfl))))
      (pss_one (ps_for (passes_of rfl) rfl (pi_range1 rfl T.b_range (pa_cons (pe_op op_add (pv 4) pe_int) pa_nil)) (pg_name (i := 7) sc_bound.nd rfl (Or.inl rfl)) (pss_one (ps_if (pt_not (pt_val (pcall (c_no_more T) (hr.mono (by omega)) (pa_cons (pv 0) (pa_cons (pv 1) (pa_cons (pv 2) (pa_cons (pv 5) (pa_cons (pe_dget1 (hu_of hr) (pe_ix (ixL K) (pv 3) (pv 5) (fun _ _ => rfl)) (pv 7) (by constructor <;> rfl)) (pa_cons (pcall (c_least_sum T) (hr.mono (by omega)) (pa_cons (pv 6) (pa_cons (pv 7) pa_nil))) (pa_cons (pv 7) pa_nil)))))))))) (pss_one (ps_raise rfl (takes_of rfl rfl rfl rfl) (pmkE R (by decide +kernel) (by decide +kernel) rfl))) pss_nil))))))
      (pss_one (ps_ret (pe_ifExp (pt_cmpR (op_neE hr.units0) (pe_ix (ixL K) (pv 3) pe_int (fun _ _ => rfl)) pe_dnewK (nomark _)) (pe_callB (minI K rfl) rfl T.b_min (by decide +kernel) (pa_cons (pe_lock (pe_lc (own := [("some", 7)]) (g := gName 7) rfl sc_bound.nd (pi_keys (pe_ix (ixL K) (pv 3) pe_int (fun _ _ => rfl))) (blkOk_by (own := [("some", 7)]) (N := ["land", "works", "wants", "table", "left", "place", "rows", "some", "k"]) (sc := (defScope s_bound)) (by decide +kernel)) (fun _ _ _ _ _ => pg_name (i := 7) sc_bound.nd rfl (Or.inl rfl)) (fun _ _ _ _ _ => pts_nil) (fun _ _ _ _ _ => (pe_dget (hu_of hr) (pe_ix (ixL K) (pv 3) pe_int (fun _ _ => rfl)) (pv 7) (fun _ _ => rfl))))) pa_nil)) pe_non)))))), ?_⟩
    exact ⟨_, rfl, _, rfl, _, rfl, _, rfl, vA, vB, vD, vL, x, rfl, hb, qe⟩
theorem c_dearer_bad (T : Txt K mg) (R : Errs K mg) : CalK P w K mg base (L2.CX P w) 5 "dearer" ["land", "works", "wants", "left"] 3 "left" (.int 0) (sp_bad K) := by
  refine calK T.d_dearer sc_dearer rfl (fun _ _ _ _ _ _ us ws h1 h2 => match us, ws, h1, h2 with | [_, _, _], [_], _, _ => rfl) (fun _ _ _ _ _ _ us ws h1 h2 => match us, ws, h1, h2 with | [_, _, _], [_], _, _ => ⟨_, _, _, _, _, _, rfl, rfl, rfl⟩) (fun vs H Q E h => ?_) (fun f cdv A outer s H vs Q E hr h => ?_)
  · obtain ⟨vA, vB, vD, vL, x, rfl, _⟩ := h
    rfl
  · obtain ⟨vA, vB, vD, vL, x, rfl, hb, qe⟩ := h
    refine ⟨_, (pss_cons (ps_expr (pcallS (c_look_caseX T R) (hr.mono (by omega)) (passAt (takes_of rfl rfl rfl rfl)) (pa_cons (pv 0) (pa_cons (pv 1) (pa_cons (pv 2) (pa_cons (pv 3) pa_nil))))))
      (pss_cons (ps_set (i := 4) sc_dearer.nd rfl (Or.inl rfl) (pcall (c_least_of T) (hr.mono (by omega)) (pa_cons (pv 0) (pa_cons (pv 1) (pa_cons (pv 2) (pa_cons (pv 3) pa_nil))))))
      (pss_cons (ps_set (i := 5) sc_dearer.nd rfl (Or.inl rfl) (pe_lst pa_nil))
      (pss_cons (ps_for (passes_of rfl) rfl (pi_range1 rfl T.b_range (pa_cons (pe_callB (lenS K) rfl T.b_len PySem.boot_len (pa_cons (pv 0) pa_nil)) pa_nil)) (pg_name (i := 6) sc_dearer.nd rfl (Or.inl rfl)) (pss_cons (ps_set (i := 7) sc_dearer.nd rfl (Or.inl rfl) (pe_op op_add (peOrT K (pe_ix (ixT K) (pv 2) (pv 6) (fun _ _ => rfl)) (pe_one pe_int)) pe_int))
      (pss_cons (ps_set (i := 8) sc_dearer.nd rfl (Or.inl rfl) (pe_op (catA K) (pe_op (catA K) (pe_slice (slA K) (pv 2) po_none (po_some (pv 6))) (pe_tup (pa_cons (pv 7) pa_nil))) (pe_slice (slA K) (pv 2) (po_some (pe_op op_add (pv 6) pe_int)) po_none)))
      (pss_cons (ps_set (i := 9) sc_dearer.nd rfl (Or.inl rfl) (pe_ifExp (PW.pt (pw_and (pt_cmpR op_le (pv 7) (pe_glob (v := .int 999) rfl T.i_MOST_WANT.choose_spec ⟨_, rfl⟩) (nomark _)) (pw_and1 (pt_cmpR op_notN (pv 4) pe_non (nomark _))))) (pcall (c_least_of T) (hr.mono (by omega)) (pa_cons (pv 0) (pa_cons (pv 1) (pa_cons (pv 8) (pa_cons (pv 3) pa_nil))))) pe_non))
      (pss_one (ps_expr (pe_bm PySem.F.plainAttrs_list PySem.F.slot_list_append PySem.F.type_list_append mt_append (pv 5) (pa_cons (pe_ifExp (pt_cmpR op_isN (pv 9) pe_non (nomark _)) pe_non (pe_op op_sub (pv 9) (pv 4))) pa_nil))))))))
      (pss_one (ps_ret (pv 5))))))), ?_⟩
    exact ⟨_, rfl, _, rfl, _, rfl, _, rfl, vA, vB, vD, vL, x, rfl, hb, qe⟩
end
end Oa
namespace Oa
open PySem PySem.Spec PyProof.Rows L2 Oat
section
variable {P : Program} {w : World} {K : PySem.W.Frag} {mg : Str → Option Value} {base : Heap}
/-! ### plan_of, where it is refused -/
def sp_plan_ofN (K : PySem.W.Frag) : Sp := fun vs H Q E => ∃ a b d c carts, vs = [.ref a, .ref b, .ref d, .int ((c.left : Nat) : Int)] ∧ CaseAt K H a b d c carts ∧ c.room ≤ 20 ∧
  ((least c = none ∧ ∀ H', Same H H' → E (.ref (He.ga K "NoneSuch")) none H') ∨ ∃ y, least c = some y ∧ 1500 < y ∧ ∀ H', Same H H' → E (.ref (He.ga K "BadWants")) none H')
theorem c_plan_ofN (T : Txt K mg) (R : Errs K mg) : CalK P w K mg base (L2.CX P w) 5 "plan_of" ["land", "works", "wants", "left"] 3 "left" (.int 0) (sp_plan_ofN K) := by
  refine calK T.d_plan_of sc_plan_of rfl (fun _ _ _ _ _ _ us ws h1 h2 => match us, ws, h1, h2 with | [_, _, _], [_], _, _ => rfl) (fun _ _ _ _ _ _ us ws h1 h2 => match us, ws, h1, h2 with | [_, _, _], [_], _, _ => ⟨_, _, _, _, _, _, rfl, rfl, rfl⟩) (fun vs H Q E h => ?_) (fun f cdv A outer s H vs Q E hr h => ?_)
  · obtain ⟨a, b, d, c, carts, rfl, _⟩ := h
    rfl
  · obtain ⟨a, b, d, c, carts, rfl, hC, h20, h⟩ := h
    refine ⟨_, (pss_cons (ps_expr (pcall (c_look_case T) (hr.mono (by omega)) (pa_cons (pv 0) (pa_cons (pv 1) (pa_cons (pv 2) (pa_cons (pv 3) pa_nil))))))
      (pss_cons (ps_set (i := 4) sc_plan_of.nd rfl (Or.inl rfl) (pcall (c_least_of T) (hr.mono (by omega)) (pa_cons (pv 0) (pa_cons (pv 1) (pa_cons (pv 2) (pa_cons (pv 3) pa_nil))))))
      (pss_cons (ps_if (pt_cmpR op_isN (pv 4) pe_non (nomark _)) (pss_one (ps_raise rfl (takes_of rfl rfl rfl rfl) (pmkE R (by decide +kernel) (by decide +kernel) rfl))) pss_nil)
      (pss_cons (ps_if (pt_cmpR op_gt (pv 4) (pe_glob (v := .int 1500) rfl T.i_MOST_MADE.choose_spec ⟨_, rfl⟩) (nomark _)) (pss_one (ps_raise rfl (takes_of rfl rfl rfl rfl) (pmkE R (by decide +kernel) (by decide +kernel) rfl))) pss_nil)
      (pss_one (ps_ret (pcall (c_made T) (hr.mono (by omega)) (pa_cons (pv 0) (pa_cons (pv 1) (pa_cons (pv 2) (pa_cons (pv 3) pa_nil))))))))))), ?_⟩
    refine ⟨_, rfl, _, rfl, _, rfl, _, rfl, a, b, d, c, carts, rfl, hC, h20, fun H1 s1 => ?_⟩
    refine ⟨_, rfl, _, rfl, _, rfl, _, rfl, a, b, d, c, carts, rfl, hC.same s1, fun H2 s2 => ?_⟩
    rcases h with ⟨hl, qe⟩ | ⟨y, hl, hy, qe⟩
    · rw [hl]
      exact ⟨_, rfl, rfl, true, rfl, iteT (qe _ (s1.trans s2))⟩
    · rw [hl]
      refine ⟨_, rfl, rfl, false, rfl, iteF ?_⟩
      exact ⟨_, rfl, _, _, rfl, rfl, true, congrArg V.bl (decide_eq_true hy), iteT (qe _ (s1.trans s2))⟩
/-! ### bound of None -/
def sp_is_paperN (K : PySem.W.Frag) : Sp := fun vs H Q _ => ∃ a vL, vs = [.ref a, .non, vL] ∧ Q (.bl false) H
theorem c_is_paperN (T : Txt K mg) : Cal P w K mg base CX0 2 "is_paper" ["land", "thing", "left"] (sp_is_paperN K) := by
  refine cal0 T.d_is_paper sc_is_paper (fun _ _ _ _ _ _ us hl => match us, hl with | [_, _, _], _ => rfl) (fun vs H Q E h => ?_) (fun f cdv A outer s H vs Q E hr h => ?_)
  · obtain ⟨a, vL, rfl, _⟩ := h
    rfl
  · obtain ⟨a, vL, rfl, q⟩ := h
    refine ⟨_, (pss_cons (ps_if (PW.pt (pw_or (pt_not (pt_val (pe_callB (isi K) rfl T.b_isinstance (by decide +kernel) (pa_cons (pv 1) (pa_cons (pe_bltn (v := .ty "list") rfl T.b_list (by decide +kernel) rfl) pa_nil))))) (pw_or (pt_cmpR op_ne (pe_callB (lenS K) rfl T.b_len PySem.boot_len (pa_cons (pv 1) pa_nil)) (pe_callB (lenS K) rfl T.b_len PySem.boot_len (pa_cons (pv 0) pa_nil)) (nomark _)) (pw_or1 (pt_not (pt_val (pe_callB (allL K rfl) rfl T.b_all (by decide +kernel) (pa_cons (pe_lc (own := [("one", 4)]) (g := gName 4) rfl sc_is_paper.nd (piL K (pv 1)) (blkOk_by (own := [("one", 4)]) (N := ["land", "thing", "left", "keys", "one", "key", "number"]) (sc := (defScope s_is_paper)) (by decide +kernel)) (fun _ _ _ _ _ => pg_name (i := 4) sc_is_paper.nd rfl (Or.inl rfl)) (fun _ _ _ _ _ => pts_nil) (fun _ _ _ _ _ => (pe_callB (isi K) rfl T.b_isinstance (by decide +kernel) (pa_cons (pv 4) (pa_cons (pe_bltn (v := .ty "dict") rfl T.b_dict (by decide +kernel) rfl) pa_nil))))) pa_nil)))))))) (pss_one (ps_ret pe_bl)) pss_nil)
      (pss_cons (ps_locks (ps_setLc2 (i := 3) (own := [("one", 4), ("key", 5)]) (vs1 := [5]) (g := gName 4) (g1 := gName 5) rfl sc_is_paper.nd rfl rfl (sw_true rfl rfl rfl (by decide +kernel)) (piL K (pv 1)) (blkOk_by (own := [("one", 4), ("key", 5)]) (N := ["land", "thing", "left", "keys", "one", "key", "number"]) (sc := (defScope s_is_paper)) (by decide +kernel)) (by decide) (fun _ _ _ _ _ => pg_name (i := 4) sc_is_paper.nd rfl (Or.inl rfl)) (fun _ _ _ _ _ => pts_nil) (fun _ _ _ _ _ => pi_keys (pv 4)) (fun _ _ _ _ _ => pg_name (i := 5) sc_is_paper.nd rfl (Or.inl rfl)) (fun _ _ _ _ _ => pts_nil) (fun _ _ _ _ _ => (pe_tup (pa_cons (pv 5) (pa_cons (pe_dget (hu_of hr) (pv 4) (pv 5) (fun _ _ => rfl)) pa_nil))))) 0)
      (pss_one (ps_ret (pe_callB (allL K rfl) rfl T.b_all (by decide +kernel) (pa_cons (pe_lc (own := [("key", 5), ("number", 6)]) (g := gTup K 2 (gCons (gName 5) (gCons (gName 6) gNil))) rfl sc_is_paper.nd (piL K (pv 3)) (blkOk_by (own := [("key", 5), ("number", 6)]) (N := ["land", "thing", "left", "keys", "one", "key", "number"]) (sc := (defScope s_is_paper)) (by decide +kernel)) (fun _ _ _ _ _ => pgTupK K rfl (pgs_cons (pg_name (i := 5) sc_is_paper.nd rfl (Or.inl rfl)) (pgs_cons (pg_name (i := 6) sc_is_paper.nd rfl (Or.inl rfl)) pgs_nil))) (fun _ _ _ _ _ => pts_nil) (fun _ _ _ _ _ => (pe_and (pcall (c_is_whole T) (hr.mono (by omega)) (pa_cons (pv 5) (pa_cons pe_int (pa_cons (pv 2) pa_nil)))) (pe_one (pcall (c_is_whole T) (hr.mono (by omega)) (pa_cons (pv 6) (pa_cons pe_int (pa_cons (pe_glob (v := .int 1000000000000000000000000000000) rfl T.i_MOST_NUMBER.choose_spec ⟨_, rfl⟩) pa_nil)))))))) pa_nil)))))), ?_⟩
    exact ⟨_, rfl, .non, .ty "list", .type "NoneType", .type "list", false, rfl, .ty "list", .base .non, kit_ty (by decide +kernel), false, rfl, iteT (iteT q)⟩
def sp_boundN (K : PySem.W.Frag) : Sp := fun vs H Q E => ∃ a b d c carts, vs = [.ref a, .ref b, .ref d, .non, .int ((c.left : Nat) : Int)] ∧ CaseAt K H a b d c carts ∧ c.room ≤ 20 ∧ ∀ H', Same H H' → E (.ref (He.ga K "BadPaper")) none H'
theorem c_boundN (T : Txt K mg) (R : Errs K mg) : CalK P w K mg base (L2.CX P w) 5 "bound" ["land", "works", "wants", "table", "left"] 4 "left" (.int 0) (sp_boundN K) := by
  refine calK T.d_bound sc_bound rfl (fun _ _ _ _ _ _ us ws h1 h2 => match us, ws, h1, h2 with | [_, _, _, _], [_], _, _ => rfl) (fun _ _ _ _ _ _ us ws h1 h2 => match us, ws, h1, h2 with | [_, _, _, _], [_], _, _ => ⟨_, _, _, _, _, _, rfl, rfl, rfl⟩) (fun vs H Q E h => ?_) (fun f cdv A outer s H vs Q E hr h => ?_)
  · obtain ⟨a, b, d, c, carts, rfl, _⟩ := h
    rfl
  · obtain ⟨a, b, d, c, carts, rfl, hC, h20, qe⟩ := h
    refine ⟨_, (pss_cons (ps_expr (pcall (c_look_case T) (hr.mono (by omega)) (pa_cons (pv 0) (pa_cons (pv 1) (pa_cons (pv 2) (pa_cons (pv 4) pa_nil))))))
      (pss_cons (ps_if (pt_not (pt_val (pcall (c_is_paperN T) (hr.mono (by omega)) (pa_cons (pv 0) (pa_cons (pv 3) (pa_cons (pv 4) pa_nil)))))) (pss_one (ps_raise rfl (takes_of rfl rfl rfl rfl) (pmkE R (by decide +kernel) (by decide +kernel) rfl))) pss_nil)
      (pss_cons (ps_for (passes_of rfl) rfl (pi_range1 rfl T.b_range (pa_cons (pe_callB (lenS K) rfl T.b_len PySem.boot_len (pa_cons (pv 0) pa_nil)) pa_nil)) (pg_name (i := 5) sc_bound.nd rfl (Or.inl rfl)) (pss_cons (ps_setLc (i := 6) (own := [("k", 8)]) (g := gName 8) rfl sc_bound.nd rfl rfl (sw_true rfl rfl rfl (by decide +kernel)) (piL K (pcall (c_beyond T) (hr.mono (by omega)) (pa_cons (pv 0) (pa_cons (pv 5) pa_nil)))) (blkOk_by (own := [("k", 8)]) (N := ["land", "works", "wants", "table", "left", "place", "rows", "some", "k"]) (sc := (defScope s_bound)) (by decide +kernel)) (fun _ _ _ _ _ => pg_name (i := 8) sc_bound.nd rfl (Or.inl rfl)) (fun _ _ _ _ _ => pts_nil) (fun _ _ _ _ _ => (pe_ix (ixL K) (pv 3) (pv 8) (fun _ _ => rfl))))
      (pss_one (ps_for (passes_of rfl) rfl (pi_range1 rfl T.b_range (pa_cons (pe_op op_add (pv 4) pe_int) pa_nil)) (pg_name (i := 7) sc_bound.nd rfl (Or.inl rfl)) (pss_one (ps_if (pt_not (pt_val (pcall (c_no_more T) (hr.mono (by omega)) (pa_cons (pv 0) (pa_cons (pv 1) (pa_cons (pv 2) (pa_cons (pv 5) (pa_cons (pe_dget1 (hu_of hr) (pe_ix (ixL K) (pv 3) (pv 5) (fun _ _ => rfl)) (pv 7) (by constructor <;> rfl)) (pa_cons (pcall (c_least_sum T) (hr.mono (by omega)) (pa_cons (pv 6) (pa_cons (pv 7) pa_nil))) (pa_cons (pv 7) pa_nil)))))))))) (pss_one (ps_raise rfl (takes_of rfl rfl rfl rfl) (pmkE R (by decide +kernel) (by decide +kernel) rfl))) pss_nil))))))
      (pss_one (ps_ret (pe_ifExp (pt_cmpR (op_neE hr.units0) (pe_ix (ixL K) (pv 3) pe_int (fun _ _ => rfl)) pe_dnewK (nomark _)) (pe_callB (minI K rfl) rfl T.b_min (by decide +kernel) (pa_cons (pe_lock (pe_lc (own := [("some", 7)]) (g := gName 7) rfl sc_bound.nd (pi_keys (pe_ix (ixL K) (pv 3) pe_int (fun _ _ => rfl))) (blkOk_by (own := [("some", 7)]) (N := ["land", "works", "wants", "table", "left", "place", "rows", "some", "k"]) (sc := (defScope s_bound)) (by decide +kernel)) (fun _ _ _ _ _ => pg_name (i := 7) sc_bound.nd rfl (Or.inl rfl)) (fun _ _ _ _ _ => pts_nil) (fun _ _ _ _ _ => (pe_dget (hu_of hr) (pe_ix (ixL K) (pv 3) pe_int (fun _ _ => rfl)) (pv 7) (fun _ _ => rfl))))) pa_nil)) pe_non)))))), ?_⟩
    refine ⟨_, rfl, _, rfl, _, rfl, _, rfl, a, b, d, c, carts, rfl, hC, h20, fun H1 s1 => ?_⟩
    exact ⟨_, rfl, _, rfl, _, rfl, a, _, rfl, ⟨false, rfl, iteT (qe _ s1)⟩⟩
/-! ### _law_does -/
def kindOf (k : Nat) : Option Str := if k = 1 then some "NoneSuch" else if k = 2 then some "NoneSuch" else if k = 4 then some "NoneSuch" else if k = 5 then some "NoneSuch" else if k = 8 then some "BadPaper" else none
def DoesC (K : PySem.W.Frag) (H : Hp) (k : Nat) (vA vB vD vL : V) (o : Option Str) : Prop := (∃ x, o = some x ∧ BadC K H vA vB vD vL x) ∨
  ∃ a b d c carts, vA = .ref a ∧ vB = .ref b ∧ vD = .ref d ∧ vL = .int ((c.left : Nat) : Int) ∧ CaseAt K H a b d c carts ∧ c.room ≤ 20 ∧ (∀ u, some u ∈ c.W → u ≤ 998) ∧ ((least c = none ∧ o = kindOf k) ∨ (k = 5 ∧ o = some "BadWants" ∧ ∃ y, least c = some y ∧ 1500 < y))
def DoesQ (K : PySem.W.Frag) (H : Hp) (o : Option Str) (Q : VK) (E : XK) : Prop := match o with
  | none => ∀ v H', Same H H' → Q v H'
  | some x => ∀ H', Same H H' → E (.ref (He.ga K x)) none H'
def sp_law_does (K : PySem.W.Frag) : Sp := fun vs H Q E => ∃ (k : Nat) (vA vB vD vL : V) (o : Option Str), vs = [.int ((k : Nat) : Int), vA, vB, vD, vL] ∧ k < 10 ∧ DoesC K H k vA vB vD vL o ∧ DoesQ K H o Q E
theorem decK (k : Nat) (j : Nat) : decide (V.int ((k : Nat) : Int) = V.int ((j : Nat) : Int)) = decide (k = j) := decide_eq_decide.mpr ⟨fun h => by injection h with h; omega, fun h => by rw [h]⟩
theorem c__law_does (T : Txt K mg) (R : Errs K mg) (N : PlanE K mg) : Cal P w K mg base (L2.CX P w) 7 "_law_does" ["sort_of", "land_here", "works_here", "wants_here", "some"] (sp_law_does K) := by
  refine calX T.d__law_does sc__law_does (fun _ _ _ _ _ _ us hl => match us, hl with | [_, _, _, _, _], _ => rfl) (fun vs H Q E h => ?_) (fun f cdv A outer s H vs Q E hr h => ?_)
  · obtain ⟨k, vA, vB, vD, vL, o, rfl, _⟩ := h
    rfl
  · obtain ⟨k, vA, vB, vD, vL, o, rfl, hk, hc, q⟩ := h
    refine ⟨_, (pss_cons (ps_if (pt_cmpR op_eq (pv 0) pe_int (nomark _)) (pss_one (ps_ret (pcallKO (c_least T) (c_least_bad T R) (hr.mono (by omega)) (hr.mono (by omega)) (fun _ => passAt0) (passAt (takes_of rfl rfl rfl rfl)) (pa_cons (pv 1) (pa_cons (pv 2) (pa_cons (pv 3) pa_nil))) (pv 4)))) pss_nil)
      (pss_cons (ps_if (pt_cmpR op_eq (pv 0) pe_int (nomark _)) (pss_one (ps_ret (pcallKO (c_left_beyond T R) (c_left_beyond_bad T R) (hr.mono (by omega)) (hr.mono (by omega)) (passAt (takes_of rfl rfl rfl rfl)) (passAt (takes_of rfl rfl rfl rfl)) (pa_cons (pv 1) (pa_cons (pv 2) (pa_cons (pv 3) pa_nil))) (pv 4)))) pss_nil)
      (pss_cons (ps_if (pt_cmpR op_eq (pv 0) pe_int (nomark _)) (pss_one (ps_ret (pcallKO (c_crossings T R) (c_crossings_bad T R) (hr.mono (by omega)) (hr.mono (by omega)) (passAt (takes_of rfl rfl rfl rfl)) (passAt (takes_of rfl rfl rfl rfl)) (pa_cons (pv 1) (pa_cons (pv 2) (pa_cons (pv 3) pa_nil))) (pv 4)))) pss_nil)
      (pss_cons (ps_if (pt_cmpR op_eq (pv 0) pe_int (nomark _)) (pss_one (ps_ret (pcallKO (c_blocked T) (c_blocked_bad T R) (hr.mono (by omega)) (hr.mono (by omega)) (fun _ => passAt0) (passAt (takes_of rfl rfl rfl rfl)) (pa_cons (pv 1) (pa_cons (pv 2) (pa_cons (pv 3) pa_nil))) (pv 4)))) pss_nil)
      (pss_cons (ps_if (pt_cmpR op_eq (pv 0) pe_int (nomark _)) (pss_one (ps_ret (pcallKO (c_price_of_room T R) (c_price_of_room_bad T R) (hr.mono (by omega)) (hr.mono (by omega)) (passAt (takes_of rfl rfl rfl rfl)) (passAt (takes_of rfl rfl rfl rfl)) (pa_cons (pv 1) (pa_cons (pv 2) (pa_cons (pv 3) pa_nil))) (pv 4)))) pss_nil)
      (pss_cons (ps_if (pt_cmpR op_eq (pv 0) pe_int (nomark _)) (pss_one (ps_ret (pcallKO (c_plan_ofN T R) (c_plan_of_bad T R) (hr.mono (by omega)) (hr.mono (by omega)) (passAt (takes_of rfl rfl rfl rfl)) (passAt (takes_of rfl rfl rfl rfl)) (pa_cons (pv 1) (pa_cons (pv 2) (pa_cons (pv 3) pa_nil))) (pv 4)))) pss_nil)
      (pss_cons (ps_if (pt_cmpR op_eq (pv 0) pe_int (nomark _)) (pss_one (ps_ret (pcallKO (c_paper T) (c_paper_bad T R) (hr.mono (by omega)) (hr.mono (by omega)) (fun _ => passAt0) (passAt (takes_of rfl rfl rfl rfl)) (pa_cons (pv 1) (pa_cons (pv 2) (pa_cons (pv 3) pa_nil))) (pv 4)))) pss_nil)
      (pss_cons (ps_if (pt_cmpR op_eq (pv 0) pe_int (nomark _)) (pss_one (ps_ret (pcallKO (c_is_right T N) (c_is_right_bad T R N) (hr.mono (by omega)) (hr.mono (by omega)) (passAt (takes_of rfl rfl rfl rfl)) (passAt (takes_of rfl rfl rfl rfl)) (pa_cons (pv 1) (pa_cons (pv 2) (pa_cons (pv 3) (pa_cons (pe_lst pa_nil) pa_nil)))) (pv 4)))) pss_nil)
      (pss_cons (ps_if (pt_cmpR op_eq (pv 0) pe_int (nomark _)) (pss_one (ps_ret (pcallKO (c_boundN T R) (c_bound_bad T R) (hr.mono (by omega)) (hr.mono (by omega)) (passAt (takes_of rfl rfl rfl rfl)) (passAt (takes_of rfl rfl rfl rfl)) (pa_cons (pv 1) (pa_cons (pv 2) (pa_cons (pv 3) (pa_cons pe_non pa_nil)))) (pv 4)))) pss_nil)
      (pss_one (ps_ret (pcallKO (c_dearer T) (c_dearer_bad T R) (hr.mono (by omega)) (hr.mono (by omega)) (fun _ => passAt0) (passAt (takes_of rfl rfl rfl rfl)) (pa_cons (pv 1) (pa_cons (pv 2) (pa_cons (pv 3) pa_nil))) (pv 4))))))))))))), ?_⟩
    rcases hc with ⟨x, rfl, hb⟩ | ⟨a, b, d, c, carts, rfl, rfl, rfl, rfl, hC, h20, hu, hc⟩
    · have q : ∀ H', Same H H' → E (.ref (He.ga K x)) none H' := q
      have f3 : ∀ {n : Nat} {sp1 : Sp} {Q' : VK} {E' : XK}, (∀ H', Same H H' → E' (.ref (He.ga K x)) none H') → spOr sp1 (sp_bad K) ([vA, vB, vD] ++ [vL]) H Q' E' := fun h => .inr ⟨vA, vB, vD, vL, x, rfl, hb, h⟩
      refine ⟨_, rfl, rfl, _, rfl, ite2 (fun _ => ⟨_, rfl, _, rfl, _, rfl, _, rfl, rfl, rfl, f3 (n := 0) q⟩) (fun _ => ?_)⟩
      refine ⟨_, rfl, rfl, _, rfl, ite2 (fun _ => ⟨_, rfl, _, rfl, _, rfl, _, rfl, rfl, rfl, f3 (n := 0) q⟩) (fun _ => ?_)⟩
      refine ⟨_, rfl, rfl, _, rfl, ite2 (fun _ => ⟨_, rfl, _, rfl, _, rfl, _, rfl, rfl, rfl, f3 (n := 0) q⟩) (fun _ => ?_)⟩
      refine ⟨_, rfl, rfl, _, rfl, ite2 (fun _ => ⟨_, rfl, _, rfl, _, rfl, _, rfl, rfl, rfl, f3 (n := 0) q⟩) (fun _ => ?_)⟩
      refine ⟨_, rfl, rfl, _, rfl, ite2 (fun _ => ⟨_, rfl, _, rfl, _, rfl, _, rfl, rfl, rfl, f3 (n := 0) q⟩) (fun _ => ?_)⟩
      refine ⟨_, rfl, rfl, _, rfl, ite2 (fun _ => ⟨_, rfl, _, rfl, _, rfl, _, rfl, rfl, rfl, f3 (n := 0) q⟩) (fun _ => ?_)⟩
      refine ⟨_, rfl, rfl, _, rfl, ite2 (fun _ => ⟨_, rfl, _, rfl, _, rfl, _, rfl, rfl, rfl, f3 (n := 0) q⟩) (fun _ => ?_)⟩
      refine ⟨_, rfl, rfl, _, rfl, ite2 (fun _ => ⟨_, rfl, _, rfl, _, rfl, Nat.zero_le _, fun e0 ne0 => ⟨_, rfl, rfl, rfl, .inr ⟨vA, vB, vD, .ref e0, vL, x, rfl, hb.same (same_new ne0), fun H' s' => q H' ((same_new ne0).trans s')⟩⟩⟩) (fun _ => ?_)⟩
      refine ⟨_, rfl, rfl, _, rfl, ite2 (fun _ => ⟨_, rfl, _, rfl, _, rfl, _, rfl, rfl, rfl, .inr ⟨vA, vB, vD, .non, vL, x, rfl, hb, q⟩⟩) (fun _ => ?_)⟩
      exact ⟨_, rfl, _, rfl, _, rfl, _, rfl, rfl, rfl, f3 (n := 0) q⟩
    · have hnone : k ≠ 5 → least c = none ∧ o = kindOf k := fun h5 => by
        rcases hc with h | ⟨h, _⟩
        · exact h
        · exact absurd h h5
      have told : ∀ {H' : Hp} {v : V}, least c = none ∧ o = kindOf k → kindOf k = none → Same H H' → Q v H' := fun h hk s' => by
        rw [h.2, hk] at q
        exact q _ _ s'
      have rais : ∀ {x : Str}, o = kindOf k → kindOf k = some x → ∀ H', Same H H' → E (.ref (He.ga K x)) none H' := fun h hk => by
        rw [h, hk] at q
        exact q
      refine ⟨_, rfl, rfl, _, rfl, ?_⟩
      rw [show decide (V.int ((k : Nat) : Int) = V.int 0) = decide (k = 0) from decK k 0]
      refine ite2 (fun h => ?_) (fun _ => ?_)
      · have h := of_decide_eq_true h
        subst h
        exact ⟨_, rfl, _, rfl, _, rfl, _, rfl, rfl, rfl, .inl ⟨a, b, d, c, carts, rfl, hC, h20, fun H' s' => told (hnone (by decide)) rfl s'⟩⟩
      refine ⟨_, rfl, rfl, _, rfl, ?_⟩
      rw [show decide (V.int ((k : Nat) : Int) = V.int 1) = decide (k = 1) from decK k 1]
      refine ite2 (fun h => ?_) (fun _ => ?_)
      · have h := of_decide_eq_true h
        subst h
        have hn := hnone (by decide)
        exact ⟨_, rfl, _, rfl, _, rfl, _, rfl, rfl, rfl, .inl ⟨a, b, d, c, carts, rfl, hC, h20, (fun _ => rais hn.2 rfl), fun cs ht => by rw [told_none.mpr hn.1] at ht; cases ht⟩⟩
      refine ⟨_, rfl, rfl, _, rfl, ?_⟩
      rw [show decide (V.int ((k : Nat) : Int) = V.int 2) = decide (k = 2) from decK k 2]
      refine ite2 (fun h => ?_) (fun _ => ?_)
      · have h := of_decide_eq_true h
        subst h
        have hn := hnone (by decide)
        exact ⟨_, rfl, _, rfl, _, rfl, _, rfl, rfl, rfl, .inl ⟨a, b, d, c, carts, rfl, hC, h20, (fun _ => rais hn.2 rfl), fun cs ht => by rw [told_none.mpr hn.1] at ht; cases ht⟩⟩
      refine ⟨_, rfl, rfl, _, rfl, ?_⟩
      rw [show decide (V.int ((k : Nat) : Int) = V.int 3) = decide (k = 3) from decK k 3]
      refine ite2 (fun h => ?_) (fun _ => ?_)
      · have h := of_decide_eq_true h
        subst h
        exact ⟨_, rfl, _, rfl, _, rfl, _, rfl, rfl, rfl, .inl ⟨a, b, d, c, carts, rfl, hC, h20, fun l H' s' _ => told (hnone (by decide)) rfl s'⟩⟩
      refine ⟨_, rfl, rfl, _, rfl, ?_⟩
      rw [show decide (V.int ((k : Nat) : Int) = V.int 4) = decide (k = 4) from decK k 4]
      refine ite2 (fun h => ?_) (fun _ => ?_)
      · have h := of_decide_eq_true h
        subst h
        have hn := hnone (by decide)
        exact ⟨_, rfl, _, rfl, _, rfl, _, rfl, rfl, rfl, .inl ⟨a, b, d, c, carts, rfl, hC, h20, (fun _ => rais hn.2 rfl), fun x y hx => by rw [hn.1] at hx; cases hx⟩⟩
      refine ⟨_, rfl, rfl, _, rfl, ?_⟩
      rw [show decide (V.int ((k : Nat) : Int) = V.int 5) = decide (k = 5) from decK k 5]
      refine ite2 (fun h => ?_) (fun h5 => ?_)
      · have h := of_decide_eq_true h
        subst h
        refine ⟨_, rfl, _, rfl, _, rfl, _, rfl, rfl, rfl, .inl ⟨a, b, d, c, carts, rfl, hC, h20, ?_⟩⟩
        rcases hc with ⟨h1, h2⟩ | ⟨_, rfl, y, h1, h2⟩
        · exact .inl ⟨h1, rais h2 rfl⟩
        · exact .inr ⟨y, h1, h2, q⟩
      have hn := hnone (of_decide_eq_false (Bool.eq_false_iff.mpr h5))
      refine ⟨_, rfl, rfl, _, rfl, ?_⟩
      rw [show decide (V.int ((k : Nat) : Int) = V.int 6) = decide (k = 6) from decK k 6]
      refine ite2 (fun h => ?_) (fun _ => ?_)
      · have h := of_decide_eq_true h
        subst h
        exact ⟨_, rfl, _, rfl, _, rfl, _, rfl, rfl, rfl, .inl ⟨a, b, d, c, carts, rfl, hC, h20, fun l ds H' s' _ _ => told hn rfl s'⟩⟩
      refine ⟨_, rfl, rfl, _, rfl, ?_⟩
      rw [show decide (V.int ((k : Nat) : Int) = V.int 7) = decide (k = 7) from decK k 7]
      refine ite2 (fun h => ?_) (fun _ => ?_)
      · have h := of_decide_eq_true h
        subst h
        refine ⟨_, rfl, _, rfl, _, rfl, Nat.zero_le _, fun e0 ne0 => ⟨_, rfl, rfl, rfl, .inl ?_⟩⟩
        have s0 := same_new (o := .lst []) ne0
        have hC0 := hC.same s0
        exact ⟨a, b, d, e0, c, carts, [], rfl, hC0, h20, ⟨hC0.l, hC0.k, hC.n, hC.wf, hC.c6, ⟨[], sql upd_same, .nil⟩, by decide, fun _ h => nomatch h⟩, (fun i hi => nomatch hi), fun S _ H' s' => told hn rfl (s0.trans s')⟩
      refine ⟨_, rfl, rfl, _, rfl, ?_⟩
      rw [show decide (V.int ((k : Nat) : Int) = V.int 8) = decide (k = 8) from decK k 8]
      refine ite2 (fun h => ?_) (fun h8 => ?_)
      · have h := of_decide_eq_true h
        subst h
        exact ⟨_, rfl, _, rfl, _, rfl, _, rfl, rfl, rfl, .inl ⟨a, b, d, c, carts, rfl, hC, h20, rais hn.2 rfl⟩⟩
      have hk9 : kindOf k = none := by
        rename_i g0 g1 g2 g3 g4 g6 g7
        have n1 := of_decide_eq_false (Bool.eq_false_iff.mpr g1)
        have n2 := of_decide_eq_false (Bool.eq_false_iff.mpr g2)
        have n4 := of_decide_eq_false (Bool.eq_false_iff.mpr g4)
        have n5 := of_decide_eq_false (Bool.eq_false_iff.mpr h5)
        have n8 := of_decide_eq_false (Bool.eq_false_iff.mpr h8)
        unfold kindOf
        rw [if_neg n1, if_neg n2, if_neg n4, if_neg n5, if_neg n8]
      exact ⟨_, rfl, _, rfl, _, rfl, _, rfl, rfl, rfl, .inl ⟨a, b, d, c, carts, rfl, hC, h20, hu, fun l H' s' _ => told hn hk9 s'⟩⟩
/-! ### _law_asked -/
def wordOf (o : Option Str) : Str := match o with
  | none => "told"
  | some x => errW x
def sp_law_asked (K : PySem.W.Frag) : Sp := fun vs H Q _ => ∃ (k : Nat) (vA vB vD vL : V) (o : Option Str), vs = [.int ((k : Nat) : Int), vA, vB, vD, vL] ∧ k < 10 ∧ DoesC K H k vA vB vD vL o ∧ (∀ x, o = some x → x ∈ errN) ∧ ∀ H', Same H H' → Q (.str (wordOf o)) H'
theorem c__law_asked (T : Txt K mg) (R : Errs K mg) (N : PlanE K mg) : Cal P w K mg base CX0 8 "_law_asked" ["sort_of", "land_here", "works_here", "wants_here", "some"] (sp_law_asked K) := by
  refine cal0 T.d__law_asked sc__law_asked (fun _ _ _ _ _ _ us hl => match us, hl with | [_, _, _, _, _], _ => rfl) (fun vs H Q E h => ?_) (fun f cdv A outer s H vs Q E hr h => ?_)
  · obtain ⟨k, vA, vB, vD, vL, o, rfl, _⟩ := h
    rfl
  · obtain ⟨k, vA, vB, vD, vL, o, rfl, hk, hc, he, q⟩ := h
    refine ⟨_, (pss_cons (ps_set (i := 5) sc__law_asked.nd rfl (Or.inl rfl) pe_non)
      (pss_cons (ps_try_keep (i := 6) rfl rfl rfl sc__law_asked.nd rfl rfl ⟨rfl, by decide, .inl R.oat⟩ takesNo (fun W pn xe tk pp => (pss_one (ps_expr (pcallS (c__law_does T R N) (hr.mono (by omega)) (passAt tk) (pa_cons (pv 0) (pa_cons (pv 1) (pa_cons (pv 2) (pa_cons (pv 3) (pa_cons (pv 4) pa_nil))))))))) (fun a pn => (pss_one (ps_set (i := 5) sc__law_asked.nd rfl (Or.inl rfl) (pv 6)))))
      (pss_one (ps_ret (pe_ifExp (pt_cmpR op_isN (pv 5) pe_non (nomark _)) pe_str (pcall (c__law_refusal T R) (hr.mono (by omega)) (pa_cons (pv 5) pa_nil))))))), ?_⟩
    refine ⟨_, rfl, _, rfl, _, rfl, _, rfl, _, rfl, k, vA, vB, vD, vL, o, rfl, hk, hc, ?_⟩
    cases o with
    | none =>
      intro v H1 s1
      exact ⟨_, rfl, rfl, true, rfl, iteT (q _ s1)⟩
    | some x =>
      intro H1 s1
      have hx := he x rfl
      refine ⟨true, (R.ok x hx).xo, fun _ e ne => ?_, fun z => nomatch z⟩
      refine ⟨_, rfl, ?_⟩
      refine ⟨_, rfl, rfl, false, rfl, iteF ?_⟩
      refine ⟨_, rfl, e, x, rfl, hx, upd_same, fun H2 s2 => ?_⟩
      exact q H2 (s1.trans ((same_new ne).trans s2))
/-! ### _law_lone_asked: of those that are refused -/
def BadP (K : PySem.W.Frag) (H : Hp) (vA vP : V) : Prop := (∃ o, (∀ H', Same H H' → ThT K H' vA o) ∧ landB o = false) ∨ ∃ a L, vA = .ref a ∧ SqT K H a (landV L) ∧ L.length < 30 ∧ WfL L ∧ Flat vP ∧ isWholeV vP 0 ((L.length : Nat) : Int) = false
def sp_look_placeX (K : PySem.W.Frag) : Sp := fun vs H Q E => ∃ a L vP, vs = [.ref a, vP] ∧ SqT K H a (landV L) ∧ Flat vP ∧ isWholeV vP 0 ((L.length : Nat) : Int) = false ∧ E (.ref (He.ga K "BadLand")) none H
theorem c_look_placeX (T : Txt K mg) (R : Errs K mg) : Cal P w K mg base (L2.CX P w) 2 "look_place" ["land", "place"] (sp_look_placeX K) := by
  refine calX T.d_look_place sc_look_place (fun _ _ _ _ _ _ us hl => match us, hl with | [_, _], _ => rfl) (fun vs H Q E h => ?_) (fun f cdv A outer s H vs Q E hr h => ?_)
  · obtain ⟨a, L, vP, rfl, _⟩ := h
    rfl
  · obtain ⟨a, L, vP, rfl, hS, hf, hw, qe⟩ := h
    refine ⟨_, (pss_one (ps_if (pt_not (pt_val (pcall (c_is_whole T) (hr.mono (by omega)) (pa_cons (pv 1) (pa_cons pe_int (pa_cons (pe_op op_sub (pe_callB (lenS K) rfl T.b_len PySem.boot_len (pa_cons (pv 0) pa_nil)) pe_int) pa_nil)))))) (pss_one (ps_raise rfl (takes_of rfl rfl rfl rfl) (pmkE R (by decide +kernel) (by decide +kernel) rfl))) pss_nil)), ?_⟩
    refine ⟨_, rfl, _, rfl, a, _, rfl, .inr hS, _, _, rfl, rfl, _, _, _, rfl, hf.thing, _, rfl, ?_⟩
    rw [landV_len, show ((L.length + 1 : Nat) : Int) - 1 = ((L.length : Nat) : Int) by omega, hw]
    exact iteT qe
def sp_lone_bad (K : PySem.W.Frag) : Sp := fun vs H Q E => ∃ vA vP, vs = [vA, vP] ∧ BadP K H vA vP ∧ ∀ H', Same H H' → E (.ref (He.ga K "BadLand")) none H'
theorem c_way_to_bad (T : Txt K mg) (R : Errs K mg) : Cal P w K mg base (L2.CX P w) 4 "way_to" ["land", "place"] (sp_lone_bad K) := by
  refine calX T.d_way_to sc_way_to (fun _ _ _ _ _ _ us hl => match us, hl with | [_, _], _ => rfl) (fun vs H Q E h => ?_) (fun f cdv A outer s H vs Q E hr h => ?_)
  · obtain ⟨vA, vP, rfl, _⟩ := h
    rfl
  · obtain ⟨vA, vP, rfl, hb, qe⟩ := h
    refine ⟨_, (pss_cons (ps_expr (pcallS (c_look_landX T R) (hr.mono (by omega)) (passAt (takes_of rfl rfl rfl rfl)) (pa_cons (pv 0) pa_nil)))
      (pss_cons (ps_expr (pcallS (c_look_placeX T R) (hr.mono (by omega)) (passAt (takes_of rfl rfl rfl rfl)) (pa_cons (pv 0) (pa_cons (pv 1) pa_nil))))
      (pss_cons (ps_set (i := 2) sc_way_to.nd rfl (Or.inl rfl) (pe_lst (pa_cons (pv 1) pa_nil)))
      (pss_cons (ps_while (passes_of rfl) (pt_cmpR op_ne (pe_ix (ixL K) (pv 2) (pe_un un_neg pe_int) (fun _ _ => rfl)) pe_int (nomark _)) (pss_one (ps_expr (pe_bm PySem.F.plainAttrs_list PySem.F.slot_list_append PySem.F.type_list_append mt_append (pv 2) (pa_cons (pe_ix (ixT K) (pv 0) (pe_ix (ixL K) (pv 2) (pe_un un_neg pe_int) (fun _ _ => rfl)) (fun _ _ => rfl)) pa_nil)))))
      (pss_one (ps_ret (pe_revL (pv 2)))))))), ?_⟩
    rcases hb with ⟨o, h1, h2⟩ | ⟨a, L, rfl, h1, h2, h3, hf, hw⟩
    · exact ⟨_, rfl, vA, o, rfl, h1, (fun _ H1 s1 => qe H1 s1), fun h => by rw [h2] at h; cases h⟩
    · refine ⟨_, rfl, .ref a, some (landV L), rfl, (fun H' s' => land_tht (same_t s' h1) h2), (fun h => by rw [land_ok h2 h3] at h; cases h), fun _ H1 s1 => ?_⟩
      exact ⟨_, rfl, _, rfl, a, L, vP, rfl, same_t s1 h1, hf, hw, qe H1 s1⟩
theorem c_part_of_bad (T : Txt K mg) (R : Errs K mg) : Cal P w K mg base (L2.CX P w) 4 "part_of" ["land", "place"] (sp_lone_bad K) := by
  refine calX T.d_part_of sc_part_of (fun _ _ _ _ _ _ us hl => match us, hl with | [_, _], _ => rfl) (fun vs H Q E h => ?_) (fun f cdv A outer s H vs Q E hr h => ?_)
  · obtain ⟨vA, vP, rfl, _⟩ := h
    rfl
  · obtain ⟨vA, vP, rfl, hb, qe⟩ := h
    refine ⟨_, (pss_cons (ps_expr (pcallS (c_look_landX T R) (hr.mono (by omega)) (passAt (takes_of rfl rfl rfl rfl)) (pa_cons (pv 0) pa_nil)))
      (pss_cons (ps_expr (pcallS (c_look_placeX T R) (hr.mono (by omega)) (passAt (takes_of rfl rfl rfl rfl)) (pa_cons (pv 0) (pa_cons (pv 1) pa_nil))))
      (pss_cons (ps_set (i := 2) sc_part_of.nd rfl (Or.inl rfl) (pe_lst (pa_cons (pv 1) pa_nil)))
      (pss_cons (ps_for (passes_of rfl) rfl (pi_range2 rfl T.b_range (pa_cons (pe_op op_add (pv 1) pe_int) (pa_cons (pe_callB (lenS K) rfl T.b_len PySem.boot_len (pa_cons (pv 0) pa_nil)) pa_nil))) (pg_name (i := 3) sc_part_of.nd rfl (Or.inl rfl)) (pss_one (ps_if (pt_cmpR (inS K) (pe_ix (ixT K) (pv 0) (pv 3) (fun _ _ => rfl)) (pv 2) rfl) (pss_one (ps_expr (pe_bm PySem.F.plainAttrs_list PySem.F.slot_list_append PySem.F.type_list_append mt_append (pv 2) (pa_cons (pv 3) pa_nil)))) pss_nil)))
      (pss_one (ps_ret (pv 2))))))), ?_⟩
    rcases hb with ⟨o, h1, h2⟩ | ⟨a, L, rfl, h1, h2, h3, hf, hw⟩
    · exact ⟨_, rfl, vA, o, rfl, h1, (fun _ H1 s1 => qe H1 s1), fun h => by rw [h2] at h; cases h⟩
    · refine ⟨_, rfl, .ref a, some (landV L), rfl, (fun H' s' => land_tht (same_t s' h1) h2), (fun h => by rw [land_ok h2 h3] at h; cases h), fun _ H1 s1 => ?_⟩
      exact ⟨_, rfl, _, rfl, a, L, vP, rfl, same_t s1 h1, hf, hw, qe H1 s1⟩
def sp_law_lone_asked (K : PySem.W.Frag) : Sp := fun vs H Q _ => ∃ (k : Nat) (vA vP : V), vs = [.int ((k : Nat) : Int), vA, vP] ∧ BadP K H vA vP ∧ ∀ H', Same H H' → Q (.str "land") H'
theorem c__law_lone_asked (T : Txt K mg) (R : Errs K mg) : Cal P w K mg base CX0 6 "_law_lone_asked" ["sort_of", "land_here", "place_here"] (sp_law_lone_asked K) := by
  refine cal0 T.d__law_lone_asked sc__law_lone_asked (fun _ _ _ _ _ _ us hl => match us, hl with | [_, _, _], _ => rfl) (fun vs H Q E h => ?_) (fun f cdv A outer s H vs Q E hr h => ?_)
  · obtain ⟨k, vA, vP, rfl, _⟩ := h
    rfl
  · obtain ⟨k, vA, vP, rfl, hb, q⟩ := h
    refine ⟨_, (pss_cons (ps_set (i := 3) sc__law_lone_asked.nd rfl (Or.inl rfl) pe_non)
      (pss_cons (ps_try_keep (i := 4) rfl rfl rfl sc__law_lone_asked.nd rfl rfl ⟨rfl, by decide, .inl R.oat⟩ takesNo (fun W pn xe tk pp => (pss_one (ps_if (pt_cmpR op_eq (pv 0) pe_int (nomark _)) (pss_one (ps_expr (pcallS (c_way_to_bad T R) (hr.mono (by omega)) (passAt tk) (pa_cons (pv 1) (pa_cons (pv 2) pa_nil))))) (pss_one (ps_expr (pcallS (c_part_of_bad T R) (hr.mono (by omega)) (passAt tk) (pa_cons (pv 1) (pa_cons (pv 2) pa_nil)))))))) (fun a pn => (pss_one (ps_set (i := 3) sc__law_lone_asked.nd rfl (Or.inl rfl) (pv 4)))))
      (pss_one (ps_ret (pe_ifExp (pt_cmpR op_isN (pv 3) pe_non (nomark _)) pe_str (pcall (c__law_refusal T R) (hr.mono (by omega)) (pa_cons (pv 3) pa_nil))))))), ?_⟩
    have hx : ("BadLand" : Str) ∈ errN := by decide +kernel
    refine ⟨_, rfl, rfl, _, rfl, ite2 (fun _ => ⟨_, rfl, _, rfl, vA, vP, rfl, hb, fun H1 s1 => ?_⟩) (fun _ => ⟨_, rfl, _, rfl, vA, vP, rfl, hb, fun H1 s1 => ?_⟩)⟩
    · refine ⟨true, (R.ok "BadLand" hx).xo, fun _ e ne => ?_, fun z => nomatch z⟩
      refine ⟨_, rfl, ?_⟩
      refine ⟨_, rfl, rfl, false, rfl, iteF ?_⟩
      exact ⟨_, rfl, e, "BadLand", rfl, hx, upd_same, fun H2 s2 => q H2 (s1.trans ((same_new ne).trans s2))⟩
    · refine ⟨true, (R.ok "BadLand" hx).xo, fun _ e ne => ?_, fun z => nomatch z⟩
      refine ⟨_, rfl, ?_⟩
      refine ⟨_, rfl, rfl, false, rfl, iteF ?_⟩
      exact ⟨_, rfl, e, "BadLand", rfl, hx, upd_same, fun H2 s2 => q H2 (s1.trans ((same_new ne).trans s2))⟩
end
end Oa
namespace Oa
open PySem PySem.Spec PyProof.Rows L2 Oat
section
variable {X : Cx} {k : Nat} {x : Str} {ps : List Str} {sp : Sp} {p pos : Pos}
theorem pcall0 (c : Cal X.prog X.w X.K X.mg X.base CX0 k x ps sp) (hr : Room k X.A) (hg : Gl X x := by rfl) (hdb : (x == ("__debug__" : Str)) = false := by decide) : PE X (.Call (.Name x p) [] [] pos) (tCall sp [] E0 tNil) := by
  obtain ⟨f, fd, g, kp, b, F⟩ := c
  exact pe_call0 F hr hg g kp b .nil pass0 hdb
end
section
variable {P : Program} {w : World} {K : PySem.W.Frag} {mg : Str → Option Value} {base : Heap}
/-! ### comprehensions of plain values -/
theorem all_vals : ∀ {xs : List Nat} {ys : List V} {g : Nat → V}, Paired (fun (i : Nat) v => v = g i) xs ys → ys = xs.map g
  | _, _, _, .nil => rfl
  | _, _, _, .cons a b => by rw [a, all_vals b]; rfl
theorem lc_vals {J : It} {n : Nat} {G : Hp → Prop} {Y : Nat → Hp → V → Hp → Prop} (w : Walk J n G Y) {te : TE} {vs : List Nat} {σ : L2.St} {j : Nat} {H1 : Hp} {D : Addr} {Qd : Hp → Prop} (hD : H1 D = none) (hn : n ≤ 1000)
    (hG : ∀ H, Same H1 H → G H) (g : Nat → V)
    (step : ∀ i x H2 H3, i < n → Same H1 H2 → Y i H2 x H3 → Same H2 H3 ∧ wipe ((wipe σ vs).set j (some x)) vs = wipe σ vs ∧
      ∀ H4, Same H1 H4 → ∀ Q : VK, (∀ H5, Same H4 H5 → Q (g i) H5) → te ((wipe σ vs).set j (some x)) H4 Q)
    (q : ∀ H2, Same H1 H2 → H2 D = some (.lst ((List.range n).map g)) → Qd H2) :
    ∃ W : Nat → Nat → Hp → Prop, (∃ m, W 0 m (upd H1 D (.lst []))) ∧ ∀ i m H, W i m H →
      (J.stop i H ∧ Qd H) ∨ (J.go i H ∧ ∃ Nx : Hp → Prop, (∀ H', Nx H' → ∃ m', m' < m ∧ W (i + 1) m' H') ∧ ∀ x H', J.yld i H x H' → gName j x (wipe σ vs) H' fun σ2 H2 => wipe σ2 vs = wipe σ vs ∧ tYes σ2 H2 fun b H3 =>
        if b = true then te σ2 H3 fun y H4 => ∃ acc, H4 D = some (.lst acc) ∧ acc.length < sizeLine ∧ Nx (upd H4 D (.lst (acc ++ [y]))) else Nx H3) := by
  refine lc_rel w hD hn hG (fun _ => true) (fun i v _ => v = g i) (fun _ _ _ _ _ _ _ h => h) (fun i x H2 H3 l hi s1 hy y => ?_) (fun ys H2 s1 hy hp => ?_)
  · obtain ⟨s2, e, h⟩ := step i x H2 H3 hi s1 y
    exact ⟨s2, e, fun Q' q' => q' H3 (Same.refl _), fun _ H4 s4 Q' q' => h H4 (s1.trans (s2.trans s4)) Q' fun H5 s5 => q' _ H5 s5 rfl⟩
  · refine q H2 s1 ?_
    rw [show (List.range n).filter (fun _ => true) = List.range n by simp] at hp
    rw [hy, all_vals hp]
/-! ### lists of things of any kind -/
def ThS (K : PySem.W.Frag) (H : Hp) (v : V) (o : Option (List V)) : Prop := ∀ H', Same H H' → ThT K H' v o
theorem ThS.same {H H' : Hp} {v : V} {o : Option (List V)} (h : ThS K H v o) (s : Same H H') : ThS K H' v o := fun _ s' => h _ (s.trans s')
def Mk1 (K : PySem.W.Frag) (t : TE) (σ : L2.St) (o : Option (List V)) : Prop := ∀ H (Q : VK), (∀ v H', Same H H' → ThS K H' v o → Q v H') → t σ H Q
def MkA (K : PySem.W.Frag) (t : TA) (σ : L2.St) (os : List (Option (List V))) : Prop := ∀ H (Q : List V → Hp → Prop), (∀ vs H', Same H H' → Paired (ThS K H') vs os → Q vs H') → t σ H Q
def FlA (t : TA) (σ : L2.St) (xs : List V) : Prop := ∀ H (Q : List V → Hp → Prop), Q xs H → t σ H Q
def flatV : V → Bool
  | .non => true
  | .int _ => true
  | .bl _ => true
  | .str _ => true
  | _ => false
theorem flat_of {v : V} (h : flatV v = true) : Flat v := by
  cases v with
  | non => exact .inl rfl
  | int i => exact .inr (.inl ⟨i, rfl⟩)
  | bl b => exact .inr (.inr (.inl ⟨b, rfl⟩))
  | str s => exact .inr (.inr (.inr ⟨s, rfl⟩))
  | _ => cases h
theorem flats_of {xs : List V} (h : xs.all flatV = true) : ∀ x ∈ xs, Flat x := fun x hx => flat_of (List.all_eq_true.mp h x hx)
theorem mk_nil {σ : L2.St} : MkA K tNil σ [] := fun H Q q => q [] H (Same.refl _) .nil
theorem mk_cons {σ : L2.St} {t : TE} {tr : TA} {o : Option (List V)} {os : List (Option (List V))} (h : Mk1 K t σ o) (hr : MkA K tr σ os) : MkA K (tCons t tr) σ (o :: os) := fun H Q q =>
  h H _ fun v H1 s1 hv => hr H1 _ fun vs H2 s2 hvs => q _ _ (s1.trans s2) (.cons (hv.same s2) hvs)
theorem mk_non {σ : L2.St} : Mk1 K (tC .non) σ none := fun H Q q => q _ H (Same.refl _) fun _ _ => tht_non
theorem mk_int {σ : L2.St} {i : Int} : Mk1 K (tC (.int i)) σ none := fun H Q q => q _ H (Same.refl _) fun _ _ => tht_int
theorem ths_tup {H : Hp} {a : Addr} {xs : List V} (h : SqT K H a xs) (hl : xs.length ≤ 100) (hf : xs.all flatV = true) : ThS K H (.ref a) (some xs) := fun H' s => tht_tup (same_t s h) hl (flats_of hf)
theorem ths_lst {H : Hp} {a : Addr} {xs : List V} (h : SqL K H a xs) : ThS K H (.ref a) none := fun H' s => tht_lst (same_l s h)
theorem size100 {n : Nat} (h : n ≤ 100) : n ≤ sizeLine := Nat.le_trans h (by decide)
theorem mk_tup {σ : L2.St} {t : TA} {xs : List V} (h : FlA t σ xs) (hl : xs.length ≤ 100) (hf : xs.all flatV = true) : Mk1 K (tTup t) σ (some xs) := fun H Q q =>
  h H _ ⟨size100 hl, fun p np => q _ _ (same_new np) (ths_tup (sqt upd_same) hl hf)⟩
theorem mk_lst {σ : L2.St} {t : TA} {xs : List V} (h : FlA t σ xs) (hl : xs.length ≤ 100) : Mk1 K (tLst t) σ none := fun H Q q =>
  h H _ ⟨size100 hl, fun p np => q _ _ (same_new np) (ths_lst (sql upd_same))⟩
/-- (x, ..) * k -/
theorem mk_rep {σ : L2.St} {t : TA} {xs : List V} {k : Int} (h : FlA t σ xs) (hl : xs.length ≤ 100) (hne : xs ≠ []) (h2 : 2 ≤ k) (hk : k ≤ 100) (hr : (List.replicate k.toNat xs).flatten.length ≤ 100) (hf : (List.replicate k.toNat xs).flatten.all flatV = true) : Mk1 K (tOp (rRepT K) (tTup t) (tC (.int k))) σ (some (List.replicate k.toNat xs).flatten) := fun H Q q =>
  h H _ ⟨size100 hl, fun p np => ⟨p, k, xs, rfl, rfl, sqt upd_same, hne, h2, by omega, by omega, fun p2 np2 => q _ _ ((same_new np).trans (same_new np2)) (ths_tup (sqt upd_same) hr hf)⟩⟩
/-- (y, ..) + (x, ..) * k -/
theorem mk_cat {σ : L2.St} {t u : TA} {ys xs : List V} {k : Int} (h : FlA t σ xs) (g : FlA u σ ys) (hl : xs.length ≤ 100) (gl : ys.length ≤ 100) (hne : xs ≠ []) (h2 : 2 ≤ k) (hk : k ≤ 100) (hr : (ys ++ (List.replicate k.toNat xs).flatten).length ≤ 100) (hf : (ys ++ (List.replicate k.toNat xs).flatten).all flatV = true) :
    Mk1 K (tOp (rCatA K) (tTup u) (tOp (rRepT K) (tTup t) (tC (.int k)))) σ (some (ys ++ (List.replicate k.toNat xs).flatten)) := fun H Q q =>
  g H _ ⟨size100 gl, fun p0 np0 => h _ _ ⟨size100 hl, fun p np => ⟨p, k, xs, rfl, rfl, sqt upd_same, hne, h2, by omega, by omega, fun p2 np2 => by
    have s1 := (same_new (o := .tup xs) np).trans (same_new (o := .tup (List.replicate k.toNat xs).flatten) np2)
    refine catA_any (xs := ys) (ys := (List.replicate k.toNat xs).flatten) (same_t s1 (sqt upd_same)) (sqt upd_same) (by rw [List.length_append] at hr; exact size100 hr) fun p3 H3 s3 h3 => ?_
    exact q _ _ ((same_new np0).trans (s1.trans s3)) (ths_tup h3 hr hf)⟩⟩⟩
def Kinds (K : PySem.W.Frag) (H : Hp) (l : Addr) (os : List (Option (List V))) : Prop := ∃ vs, SqL K H l vs ∧ Paired (ThS K H) vs os
theorem Kinds.same {H H' : Hp} {l : Addr} {os : List (Option (List V))} (h : Kinds K H l os) (s : Same H H') : Kinds K H' l os := by
  obtain ⟨vs, h1, h2⟩ := h
  exact ⟨vs, same_l s h1, paired_imp h2 fun _ _ z => z.same s⟩
theorem mk_kinds {σ : L2.St} {t : TA} {os : List (Option (List V))} {H : Hp} {Q : VK} (h : MkA K t σ os) (hl : os.length ≤ 100) (q : ∀ l H', Same H H' → Kinds K H' l os → Q (.ref l) H') : tLst t σ H Q :=
  h H _ fun vs H1 s1 hp => ⟨by rw [Paired.length hp]; exact size100 hl, fun l nl => q l _ (s1.trans (same_new nl)) ⟨vs, sql upd_same, paired_imp hp fun _ _ z => z.same (same_new nl)⟩⟩
theorem asg_kinds {σ : L2.St} {t : TA} {i : Nat} {tr : TS} {D : Ends} {H : Hp} (os : List (Option (List V))) (h : MkA K t σ os) (hl : os.length ≤ 100) (q : ∀ l H', Same H H' → Kinds K H' l os → tr D (σ.set i (some (.ref l))) H') : tSeq (tAsg (tLst t) (gName i)) tr D σ H := by
  show tLst t σ H fun x H1 => tr D (σ.set i (some x)) H1
  exact mk_kinds h hl q
theorem paired_at2 {α β : Type} {R : α → β → Prop} : ∀ {xs : List α} {ys : List β} {i : Nat} {x : α}, Paired R xs ys → xs[i]? = some x → ∃ y, ys[i]? = some y ∧ R x y
  | _, _, 0, _, .cons a _, h => by cases h; exact ⟨_, rfl, a⟩
  | _, _, i + 1, _, .cons _ b, h => paired_at2 (i := i) b h
/-- [f(one) for one in l], one at j -/
theorem lc_kinds {te : TE} {vs : List Nat} {σ : L2.St} {i j : Nat} {l : Addr} {os : List (Option (List V))} {H : Hp} {Q : VK} (hσ : σ[i]? = some (some (.ref l))) (hk : Kinds K H l os) (hl : os.length ≤ 100) (B : Option (List V) → Bool)
    (hw : ∀ x, wipe ((wipe σ vs).set j (some x)) vs = wipe σ vs)
    (step : ∀ v o H4, Same H H4 → ThS K H4 v o → ∀ Q' : VK, (∀ H5, Same H4 H5 → Q' (.bl (B o)) H5) → te ((wipe σ vs).set j (some v)) H4 Q')
    (q : ∀ D H2, Same H H2 → H2 D = some (.lst (os.map fun o => V.bl (B o))) → Q (.ref D) H2) : tLc (iList K (tVar i)) (gName j) tYes te vs σ H Q := by
  obtain ⟨xs, hx, hp⟩ := hk
  have hlen := Paired.length hp
  refine ⟨_, hσ, l, rfl, ⟨_, hx⟩, fun D hD => ?_⟩
  refine lc_vals (walk_list (xs := xs)) hD (by omega) (fun H' s => same_l s hx) (fun i => V.bl (B (os.getD i none))) (fun i' x H2 H3 hi s1 y => ?_) (fun H2 s1 hy => ?_)
  · obtain ⟨rfl, hxi⟩ := y
    obtain ⟨o, ho, ht⟩ := paired_at2 hp hxi
    refine ⟨Same.refl _, hw x, fun H4 s4 Q' q' => ?_⟩
    have : os.getD i' none = o := by rw [List.getD_eq_getElem?_getD, ho]; rfl
    rw [this] at q'
    exact step x o H4 s4 (ht.same s4) Q' q'
  · refine q D H2 s1 ?_
    rw [hy, hlen]
    have := congrArg (List.map fun o => V.bl (B o)) (Oat.range_getD os none)
    rw [List.map_map] at this
    rw [← this]
    rfl
theorem dp_bools {H : Hp} : ∀ {bs : List Bool}, DpAll K H (bs.map V.bl) (bs.map PyData.bool)
  | [] => .nil
  | b :: bs => .cons (.bl b) dp_bools
theorem canLay_bools : ∀ bs : List Bool, PyData.canLayAll0 (bs.map PyData.bool) = true
  | [] => by simp [PyData.canLayAll0]
  | c :: cs => by simp only [List.map_cons, PyData.canLayAll0, PyData.canLay0, canLay_bools cs, Bool.and_self]
theorem depth_bools : ∀ bs : List Bool, PyData.depthAll (bs.map PyData.bool) ≤ 1
  | [] => by simp [PyData.depthAll]
  | c :: cs => by
    have := depth_bools cs
    simp only [List.map_cons, PyData.depthAll, PyData.depth]
    omega
theorem shaped_bools (bs : List Bool) : SeqAt.shaped (.list (bs.map PyData.bool)) = true := by
  have h1 := canLay_bools bs
  have h2 := depth_bools bs
  unfold SeqAt.shaped
  refine Bool.and_eq_true_iff.mpr ⟨by simp only [PyData.canLay0, h1], decide_eq_true ?_⟩
  simp only [PyData.depth]
  omega
/-- .. [b] * n, beside the list at D -/
theorem rep_bools {σ : L2.St} {H : Hp} {D : Addr} {b : Bool} {n : Int} {bs : List Bool} {Q : VK} (hD : H D = some (.lst (bs.map V.bl))) (h0 : 0 ≤ n) (hn : n ≤ 100) (hb : bs = List.replicate n.toNat b)
    (q : ∀ l H', Same H H' → Dp K H' (.ref D) (.list (bs.map PyData.bool)) → Dp K H' (.ref l) (.list (bs.map PyData.bool)) → Q (.ref l) H') : tOp rRep (tLst (tCons (tC (.bl b)) tNil)) (tC (.int n)) σ H Q := by
  refine ⟨by show 1 ≤ sizeLine; decide, fun l1 n1 => ⟨l1, n, _, rfl, rfl, upd_same, by omega, by omega, ?_, fun l2 n2 => ?_⟩⟩
  · show 1 * n.toNat ≤ sizeLine
    exact size100 (by omega)
  have s1 := same_new (o := .lst [V.bl b]) n1
  have s2 := s1.trans (same_new (o := .lst (List.replicate n.toNat [V.bl b]).flatten) n2)
  refine q l2 _ s2 (.lst (sql (s2 _ _ hD)) dp_bools) (.lst (sql (xs := bs.map V.bl) ?_) dp_bools)
  rw [upd_same, hb, List.map_replicate]
  congr 2
  clear n2 s2 hb h0 hn
  induction n.toNat with
  | zero => rfl
  | succ m ih => rw [List.replicate_succ, List.replicate_succ, List.flatten_cons, ih]; rfl
theorem or_no {t u : TT} {σ : L2.St} {H : Hp} {Q : Bool → Hp → Prop} (S : Hp → Prop) (h : ∀ Q' : Bool → Hp → Prop, (∀ H', S H' → Q' false H') → t σ H Q') (h2 : ∀ H', S H' → u σ H' Q) : tOr t u σ H Q := h _ fun H' s => iteF (h2 H' s)
theorem and_yes {ta tb : TE} {σ : L2.St} {H : Hp} {Q : VK} (S : Hp → Prop) (h : ∀ Q' : VK, (∀ H', S H' → Q' (.bl true) H') → ta σ H Q') (h2 : ∀ H', S H' → tb σ H' Q) : tAndV ta tb σ H Q := h _ fun H' s => ⟨true, rfl, iteT (h2 H' s)⟩
section
variable {te : TE} {vs : List Nat} {σ : L2.St} {i j : Nat} {l : Addr} {os : List (Option (List V))} {H : Hp} {b : Bool} {n : Int}
theorem ne_kinds {Q : Bool → Hp → Prop} (hσ : σ[i]? = some (some (.ref l))) (hk : Kinds K H l os) (hl : os.length ≤ 100) (B : Option (List V) → Bool) (h0 : 0 ≤ n) (hn : n ≤ 100) (hb : os.map B = List.replicate n.toNat b)
    (hw : ∀ x, wipe ((wipe σ vs).set j (some x)) vs = wipe σ vs)
    (step : ∀ v o H4, Same H H4 → ThS K H4 v o → ∀ Q' : VK, (∀ H5, Same H4 H5 → Q' (.bl (B o)) H5) → te ((wipe σ vs).set j (some v)) H4 Q')
    (q : ∀ H2, Same H H2 → Q false H2) : tTest (tOp (rNeD K) (tLc (iList K (tVar i)) (gName j) tYes te vs) (tOp rRep (tLst (tCons (tC (.bl b)) tNil)) (tC (.int n)))) σ H Q := by
  refine lc_kinds (Q := fun x H1 => tOp rRep (tLst (tCons (tC (.bl b)) tNil)) (tC (.int n)) σ H1 fun y H2 => rNeD K x y H2 fun x H' => ∃ k, x = .bl k ∧ Q k H') hσ hk hl B hw step fun D H2 s2 e2 => ?_
  refine rep_bools (bs := os.map B) (K := K) (by rw [e2, List.map_map]; rfl) h0 hn hb fun l2 H3 s3 d1 d2 => ?_
  exact ne_same d1 d2 (shaped_bools _) ⟨false, rfl, q _ (s2.trans s3)⟩
theorem eq_kinds {Q : VK} (hσ : σ[i]? = some (some (.ref l))) (hk : Kinds K H l os) (hl : os.length ≤ 100) (B : Option (List V) → Bool) (h0 : 0 ≤ n) (hn : n ≤ 100) (hb : os.map B = List.replicate n.toNat b)
    (hw : ∀ x, wipe ((wipe σ vs).set j (some x)) vs = wipe σ vs)
    (step : ∀ v o H4, Same H H4 → ThS K H4 v o → ∀ Q' : VK, (∀ H5, Same H4 H5 → Q' (.bl (B o)) H5) → te ((wipe σ vs).set j (some v)) H4 Q')
    (q : ∀ H2, Same H H2 → Q (.bl true) H2) : tOp (rEqD K) (tLc (iList K (tVar i)) (gName j) tYes te vs) (tOp rRep (tLst (tCons (tC (.bl b)) tNil)) (tC (.int n))) σ H Q := by
  refine lc_kinds (Q := fun x H1 => tOp rRep (tLst (tCons (tC (.bl b)) tNil)) (tC (.int n)) σ H1 fun y H2 => rEqD K x y H2 Q) hσ hk hl B hw step fun D H2 s2 e2 => ?_
  refine rep_bools (bs := os.map B) (K := K) (by rw [e2, List.map_map]; rfl) h0 hn hb fun l2 H3 s3 d1 d2 => ?_
  exact eq_same d1 d2 (shaped_bools _) (q _ (s2.trans s3))
end
/-! ### _law_kinds -/
def sp_law_kinds : Sp := fun vs H Q _ => vs = [] ∧ ∀ H', Same H H' → Q (.bl true) H'
theorem c__law_kinds (T : Txt K mg) : Cal P w K mg base CX0 3 "_law_kinds" [] sp_law_kinds := by
  refine cal0 T.d__law_kinds sc__law_kinds (fun _ _ _ _ _ _ us hl => match us, hl with | [], _ => rfl) (fun vs H Q E h => ?_) (fun f cdv A outer s H vs Q E hr h => ?_)
  · obtain ⟨rfl, _⟩ := h
    rfl
  · obtain ⟨rfl, q⟩ := h
    refine ⟨_, (pss_cons (ps_set (i := 0) sc__law_kinds.nd rfl (Or.inl rfl) (pe_lst (pa_cons (pe_tup (pa_cons pe_non pa_nil)) (pa_cons (pe_tup (pa_cons pe_non (pa_cons pe_int pa_nil))) (pa_cons (pe_op (catA K) (pe_tup (pa_cons pe_non pa_nil)) (pe_op (repT K) (pe_tup (pa_cons pe_int pa_nil)) pe_int)) (pa_cons (pe_tup (pa_cons pe_non (pa_cons pe_int (pa_cons pe_int (pa_cons pe_int (pa_cons pe_int pa_nil)))))) pa_nil))))))
      (pss_cons (ps_set (i := 1) sc__law_kinds.nd rfl (Or.inl rfl) (pe_lst (pa_cons pe_non (pa_cons pe_int (pa_cons (pe_tup pa_nil) (pa_cons (pe_tup (pa_cons pe_int pa_nil)) (pa_cons (pe_lst (pa_cons pe_non (pa_cons pe_int pa_nil))) (pa_cons (pe_tup (pa_cons pe_non (pa_cons pe_int pa_nil))) (pa_cons (pe_tup (pa_cons pe_non (pa_cons pe_non pa_nil))) (pa_cons (pe_tup (pa_cons pe_non (pa_cons pe_int (pa_cons pe_int pa_nil)))) (pa_cons (pe_tup (pa_cons pe_non (pa_cons (pe_op op_sub pe_int pe_int) pa_nil))) (pa_cons (pe_tup (pa_cons pe_non (pa_cons pe_bl pa_nil))) (pa_cons (pe_op (catA K) (pe_tup (pa_cons pe_non pa_nil)) (pe_op (repT K) (pe_tup (pa_cons pe_int pa_nil)) pe_int)) (pa_cons (pe_tup (pa_cons pe_non (pa_cons pe_str pa_nil))) pa_nil))))))))))))))
      (pss_cons (ps_if (PW.pt (pw_or (pt_cmpR (neDt K hr.units) (pe_lc (own := [("one", 2)]) (g := gName 2) rfl sc__law_kinds.nd (piL K (pv 0)) (blkOk_by (own := [("one", 2)]) (N := ["good", "bad", "one"]) (sc := (defScope s__law_kinds)) (by decide +kernel)) (fun _ _ _ _ _ => pg_name (i := 2) sc__law_kinds.nd rfl (Or.inl rfl)) (fun _ _ _ _ _ => pts_nil) (fun _ _ _ _ _ => (pcall (c_is_landG T) (hr.mono (by omega)) (pa_cons (pv 2) pa_nil)))) (pe_op op_rep (pe_lst (pa_cons pe_bl pa_nil)) pe_int) (nomark _)) (pw_or1 (pt_cmpR (neDt K hr.units) (pe_lc (own := [("one", 2)]) (g := gName 2) rfl sc__law_kinds.nd (piL K (pv 1)) (blkOk_by (own := [("one", 2)]) (N := ["good", "bad", "one"]) (sc := (defScope s__law_kinds)) (by decide +kernel)) (fun _ _ _ _ _ => pg_name (i := 2) sc__law_kinds.nd rfl (Or.inl rfl)) (fun _ _ _ _ _ => pts_nil) (fun _ _ _ _ _ => (pcall (c_is_landG T) (hr.mono (by omega)) (pa_cons (pv 2) pa_nil)))) (pe_op op_rep (pe_lst (pa_cons pe_bl pa_nil)) pe_int) (nomark _))))) (pss_one (ps_ret pe_bl)) pss_nil)
      (pss_cons (ps_set (i := 0) sc__law_kinds.nd rfl (Or.inl rfl) (pe_lst (pa_cons (pe_tup (pa_cons pe_int (pa_cons pe_int pa_nil))) (pa_cons (pe_tup (pa_cons pe_int (pa_cons pe_int pa_nil))) pa_nil))))
      (pss_cons (ps_set (i := 1) sc__law_kinds.nd rfl (Or.inl rfl) (pe_lst (pa_cons pe_non (pa_cons pe_int (pa_cons (pe_tup (pa_cons pe_int (pa_cons pe_int pa_nil))) (pa_cons (pe_tup (pa_cons pe_int (pa_cons pe_int pa_nil))) (pa_cons (pe_tup (pa_cons pe_int (pa_cons pe_int pa_nil))) (pa_cons (pe_tup (pa_cons pe_int (pa_cons pe_int pa_nil))) (pa_cons (pe_lst (pa_cons pe_int (pa_cons pe_int pa_nil))) (pa_cons (pe_tup (pa_cons pe_int pa_nil)) (pa_cons (pe_tup (pa_cons pe_int (pa_cons pe_int (pa_cons pe_int pa_nil)))) (pa_cons (pe_tup (pa_cons pe_bl (pa_cons pe_int pa_nil))) (pa_cons (pe_tup (pa_cons pe_int (pa_cons pe_non pa_nil))) pa_nil)))))))))))))
      (pss_cons (ps_if (PW.pt (pw_or (pt_cmpR (neDt K hr.units) (pe_lc (own := [("one", 2)]) (g := gName 2) rfl sc__law_kinds.nd (piL K (pv 0)) (blkOk_by (own := [("one", 2)]) (N := ["good", "bad", "one"]) (sc := (defScope s__law_kinds)) (by decide +kernel)) (fun _ _ _ _ _ => pg_name (i := 2) sc__law_kinds.nd rfl (Or.inl rfl)) (fun _ _ _ _ _ => pts_nil) (fun _ _ _ _ _ => (pcall (c_is_worksG T) (hr.mono (by omega)) (pa_cons (pv 2) pa_nil)))) (pe_op op_rep (pe_lst (pa_cons pe_bl pa_nil)) pe_int) (nomark _)) (pw_or1 (pt_cmpR (neDt K hr.units) (pe_lc (own := [("one", 2)]) (g := gName 2) rfl sc__law_kinds.nd (piL K (pv 1)) (blkOk_by (own := [("one", 2)]) (N := ["good", "bad", "one"]) (sc := (defScope s__law_kinds)) (by decide +kernel)) (fun _ _ _ _ _ => pg_name (i := 2) sc__law_kinds.nd rfl (Or.inl rfl)) (fun _ _ _ _ _ => pts_nil) (fun _ _ _ _ _ => (pcall (c_is_worksG T) (hr.mono (by omega)) (pa_cons (pv 2) pa_nil)))) (pe_op op_rep (pe_lst (pa_cons pe_bl pa_nil)) pe_int) (nomark _))))) (pss_one (ps_ret pe_bl)) pss_nil)
      (pss_cons (ps_set (i := 0) sc__law_kinds.nd rfl (Or.inl rfl) (pe_lst (pa_cons (pe_tup (pa_cons pe_non (pa_cons pe_non pa_nil))) (pa_cons (pe_tup (pa_cons pe_int (pa_cons pe_int pa_nil))) (pa_cons (pe_tup (pa_cons pe_non (pa_cons pe_int pa_nil))) pa_nil)))))
      (pss_cons (ps_set (i := 1) sc__law_kinds.nd rfl (Or.inl rfl) (pe_lst (pa_cons pe_non (pa_cons pe_int (pa_cons (pe_tup (pa_cons pe_non pa_nil)) (pa_cons (pe_op (repT K) (pe_tup (pa_cons pe_non pa_nil)) pe_int) (pa_cons (pe_lst (pa_cons pe_non (pa_cons pe_non pa_nil))) (pa_cons (pe_tup (pa_cons pe_non (pa_cons pe_int pa_nil))) (pa_cons (pe_tup (pa_cons pe_non (pa_cons (pe_op op_sub pe_int pe_int) pa_nil))) (pa_cons (pe_tup (pa_cons pe_non (pa_cons pe_bl pa_nil))) (pa_cons (pe_tup (pa_cons pe_str (pa_cons pe_non pa_nil))) pa_nil)))))))))))
      (pss_one (ps_ret (pe_and (pe_cmpR (eqDt K hr.units) (pe_lc (own := [("one", 2)]) (g := gName 2) rfl sc__law_kinds.nd (piL K (pv 0)) (blkOk_by (own := [("one", 2)]) (N := ["good", "bad", "one"]) (sc := (defScope s__law_kinds)) (by decide +kernel)) (fun _ _ _ _ _ => pg_name (i := 2) sc__law_kinds.nd rfl (Or.inl rfl)) (fun _ _ _ _ _ => pts_nil) (fun _ _ _ _ _ => (pcall (c_is_wantsG T) (hr.mono (by omega)) (pa_cons (pe_tup (pa_cons pe_non (pa_cons pe_int pa_nil))) (pa_cons (pv 2) pa_nil))))) (pe_op op_rep (pe_lst (pa_cons pe_bl pa_nil)) pe_int) (nomark _)) (pe_one (pe_cmpR (eqDt K hr.units) (pe_lc (own := [("one", 2)]) (g := gName 2) rfl sc__law_kinds.nd (piL K (pv 1)) (blkOk_by (own := [("one", 2)]) (N := ["good", "bad", "one"]) (sc := (defScope s__law_kinds)) (by decide +kernel)) (fun _ _ _ _ _ => pg_name (i := 2) sc__law_kinds.nd rfl (Or.inl rfl)) (fun _ _ _ _ _ => pts_nil) (fun _ _ _ _ _ => (pcall (c_is_wantsG T) (hr.mono (by omega)) (pa_cons (pe_tup (pa_cons pe_non (pa_cons pe_int pa_nil))) (pa_cons (pv 2) pa_nil))))) (pe_op op_rep (pe_lst (pa_cons pe_bl pa_nil)) pe_int) (nomark _)))))))))))))), ?_⟩
    have fl : ∀ {t : TA} {σ : L2.St} {xs : List V}, FlA t σ xs → FlA t σ xs := fun h => h
    -- lands
    refine asg_kinds (K := K) [some [.non], some [.non, .int 0], some ([.non] ++ (List.replicate (29 : Int).toNat [.int 0]).flatten), some [.non, .int 0, .int 1, .int 2, .int 0]] ?_ (by decide) (fun g1 H1 s1 k1 => ?_)
    · exact (mk_cons (mk_tup (fun _ _ q => q) (by decide) rfl) (mk_cons (mk_tup (fun _ _ q => q) (by decide) rfl) (mk_cons (mk_cat (fun _ _ q => q) (fun _ _ q => q) (by decide) (by decide) (fun z => nomatch z) (by decide) (by decide) (by decide) (by decide)) (mk_cons (mk_tup (fun _ _ q => q) (by decide) rfl) mk_nil))))
    refine asg_kinds (K := K) [none, none, some [], some [.int 0], none, some [.non, .int 1], some [.non, .non], some [.non, .int 0, .int 2], some [.non, .int (0 - 1)], some [.non, .bl true], some ([.non] ++ (List.replicate (30 : Int).toNat [.int 0]).flatten), some [.non, .str "0"]] ?_ (by decide) (fun b1 H2 s2 k2 => ?_)
    · exact (mk_cons mk_non (mk_cons mk_int (mk_cons (mk_tup (fun _ _ q => q) (by decide) rfl) (mk_cons (mk_tup (fun _ _ q => q) (by decide) rfl) (mk_cons (mk_lst (fun _ _ q => q) (xs := [.non, .int 0]) (by decide)) (mk_cons (mk_tup (fun _ _ q => q) (by decide) rfl) (mk_cons (mk_tup (fun _ _ q => q) (by decide) rfl) (mk_cons (mk_tup (fun _ _ q => q) (by decide) rfl) (mk_cons (mk_tup (fun _ _ q => ⟨_, _, rfl, rfl, q⟩) (by decide) rfl) (mk_cons (mk_tup (fun _ _ q => q) (by decide) rfl) (mk_cons (mk_cat (fun _ _ q => q) (fun _ _ q => q) (by decide) (by decide) (fun z => nomatch z) (by decide) (by decide) (by decide) (by decide)) (mk_cons (mk_tup (fun _ _ q => q) (by decide) rfl) mk_nil))))))))))))
    have k1 := k1.same s2
    refine if_no (fun H' => Same H2 H') (fun Q' q' => ?_) (fun H3 s3 => ?_)
    · refine or_no (fun H' => Same H2 H') (fun Q'' q'' => ne_kinds (by rfl) k1 (by decide) landB (by decide) (by decide) (by decide) (fun _ => by rfl) (fun v o H4 s4 h4 Q2 q2 => ?_) q'') (fun Hb sb => ne_kinds (by rfl) (k2.same sb) (by decide) landB (by decide) (by decide) (by decide) (fun _ => by rfl) (fun v o H4 s4 h4 Q2 q2 => ?_) fun H' s' => q' _ (sb.trans s'))
      · exact ⟨_, rfl, v, o, rfl, h4, q2⟩
      · exact ⟨_, rfl, v, o, rfl, h4, q2⟩
    have s03 := s1.trans (s2.trans s3)
    clear k1 k2 s1 s2 s3
    -- works
    refine asg_kinds (K := K) [some [.int 1, .int 2], some [.int 6, .int 20]] ?_ (by decide) (fun g2 H4 s4 k1 => ?_)
    · exact (mk_cons (mk_tup (fun _ _ q => q) (by decide) rfl) (mk_cons (mk_tup (fun _ _ q => q) (by decide) rfl) mk_nil))
    refine asg_kinds (K := K) [none, none, some [.int 0, .int 5], some [.int 7, .int 5], some [.int 1, .int 1], some [.int 1, .int 21], none, some [.int 1], some [.int 1, .int 5, .int 5], some [.bl true, .int 5], some [.int 1, .non]] ?_ (by decide) (fun b2 H5 s5 k2 => ?_)
    · exact (mk_cons mk_non (mk_cons mk_int (mk_cons (mk_tup (fun _ _ q => q) (by decide) rfl) (mk_cons (mk_tup (fun _ _ q => q) (by decide) rfl) (mk_cons (mk_tup (fun _ _ q => q) (by decide) rfl) (mk_cons (mk_tup (fun _ _ q => q) (by decide) rfl) (mk_cons (mk_lst (fun _ _ q => q) (xs := [.int 1, .int 5]) (by decide)) (mk_cons (mk_tup (fun _ _ q => q) (by decide) rfl) (mk_cons (mk_tup (fun _ _ q => q) (by decide) rfl) (mk_cons (mk_tup (fun _ _ q => q) (by decide) rfl) (mk_cons (mk_tup (fun _ _ q => q) (by decide) rfl) mk_nil)))))))))))
    have k1 := k1.same s5
    refine if_no (fun H' => Same H5 H') (fun Q' q' => ?_) (fun H6 s6 => ?_)
    · refine or_no (fun H' => Same H5 H') (fun Q'' q'' => ne_kinds (by rfl) k1 (by decide) worksB (by decide) (by decide) (by decide) (fun _ => by rfl) (fun v o H4 s4 h4 Q2 q2 => ?_) q'') (fun Hb sb => ne_kinds (by rfl) (k2.same sb) (by decide) worksB (by decide) (by decide) (by decide) (fun _ => by rfl) (fun v o H4 s4 h4 Q2 q2 => ?_) fun H' s' => q' _ (sb.trans s'))
      · exact ⟨_, rfl, v, o, rfl, h4 _ (Same.refl _), q2 _ (Same.refl _)⟩
      · exact ⟨_, rfl, v, o, rfl, h4 _ (Same.refl _), q2 _ (Same.refl _)⟩
    have s06 := s03.trans (s4.trans (s5.trans s6))
    clear k1 k2 s4 s5 s6 s03
    -- wants
    refine asg_kinds (K := K) [some [.non, .non], some [.int 0, .int 999], some [.non, .int 0]] ?_ (by decide) (fun g3 H7 s7 k1 => ?_)
    · exact (mk_cons (mk_tup (fun _ _ q => q) (by decide) rfl) (mk_cons (mk_tup (fun _ _ q => q) (by decide) rfl) (mk_cons (mk_tup (fun _ _ q => q) (by decide) rfl) mk_nil)))
    refine asg_kinds (K := K) [none, none, some [.non], some (List.replicate (3 : Int).toNat [.non]).flatten, none, some [.non, .int 1000], some [.non, .int (0 - 1)], some [.non, .bl true], some [.str "0", .non]] ?_ (by decide) (fun b3 H8 s8 k2 => ?_)
    · exact (mk_cons mk_non (mk_cons mk_int (mk_cons (mk_tup (fun _ _ q => q) (by decide) rfl) (mk_cons (mk_rep (fun _ _ q => q) (by decide) (fun z => nomatch z) (by decide) (by decide) (by decide) (by decide)) (mk_cons (mk_lst (fun _ _ q => q) (xs := [.non, .non]) (by decide)) (mk_cons (mk_tup (fun _ _ q => q) (by decide) rfl) (mk_cons (mk_tup (fun _ _ q => ⟨_, _, rfl, rfl, q⟩) (by decide) rfl) (mk_cons (mk_tup (fun _ _ q => q) (by decide) rfl) (mk_cons (mk_tup (fun _ _ q => q) (by decide) rfl) mk_nil)))))))))
    have k1 := k1.same s8
    have s08 := s06.trans (s7.trans s8)
    clear s7 s8 s06
    have want : ∀ {H4 : Hp} {v : V} {o : Option (List V)} {Q2 : VK}, ThS K H4 v o → (∀ H5, Same H4 H5 → Q2 (.bl (wantsB 2 o)) H5) → ∀ p, H4 p = none → sp_is_wantsG K [.ref p, v] (upd H4 p (.tup [.non, .int 0])) Q2 E0 := fun h4 q2 p np =>
      ⟨p, [.non, .int 0], _, _, rfl, sqt upd_same, fun H' s' => h4 _ ((same_new np).trans s'), fun H' s' => q2 _ ((same_new np).trans s')⟩
    refine and_yes (fun H' => Same H8 H') (fun Q'' q'' => eq_kinds (by rfl) k1 (by decide) (wantsB 2) (by decide) (by decide) (by decide) (fun _ => by rfl) (fun v o H4 s4 h4 Q2 q2 => ?_) q'') (fun Hb sb => eq_kinds (by rfl) (k2.same sb) (by decide) (wantsB 2) (by decide) (by decide) (by decide) (fun _ => by rfl) (fun v o H4 s4 h4 Q2 q2 => ?_) fun H' s' => q _ (s08.trans (sb.trans s')))
    · exact ⟨by show 2 ≤ sizeLine; decide, fun p np => ⟨_, rfl, want h4 q2 p np⟩⟩
    · exact ⟨by show 2 ≤ sizeLine; decide, fun p np => ⟨_, rfl, want h4 q2 p np⟩⟩
end
end Oa
namespace Oa
open PySem PySem.Spec PyProof.Rows L2 Oat
section
variable {P : Program} {w : World} {K : PySem.W.Frag} {mg : Str → Option Value} {base : Heap} {t n : Addr}
/-! ### lists of things that the town leaves alone -/
def ThU (K : PySem.W.Frag) (t n : Addr) (H : Hp) (v : V) (o : Option (List V)) : Prop := ∀ H', TSame t n H H' → ThT K H' v o
theorem ThU.s {H H' : Hp} {v : V} {o : Option (List V)} (h : ThU K t n H v o) (s : TSame t n H H') : ThS K H' v o := fun _ s' => h _ (s.trans (tsame_of s'))
section
variable {α : Type} {R : Hp → V → α → Prop} {σ : L2.St}
def MkR (t n : Addr) (R : Hp → V → α → Prop) (te : TE) (σ : L2.St) (o : α) : Prop := ∀ H (Q : VK), Town t n H → (∀ v H', Same H H' → R H' v o → Q v H') → te σ H Q
def MkRA (t n : Addr) (R : Hp → V → α → Prop) (ta : TA) (σ : L2.St) (os : List α) : Prop := ∀ H (Q : List V → Hp → Prop), Town t n H → (∀ vs H', Same H H' → Paired (R H') vs os → Q vs H') → ta σ H Q
def Mono (t n : Addr) (R : Hp → V → α → Prop) : Prop := ∀ {H H' : Hp} {v : V} {o : α}, TSame t n H H' → R H v o → R H' v o
theorem mr_nil : MkRA t n R tNil σ [] := fun H Q _ q => q [] H (Same.refl _) .nil
theorem mr_cons {te : TE} {tr : TA} {o : α} {os : List α} (m : Mono t n R) (h : MkR t n R te σ o) (hr : MkRA t n R tr σ os) : MkRA t n R (tCons te tr) σ (o :: os) := fun H Q hT q =>
  h H _ hT fun v H1 s1 hv => hr H1 _ (hT.same s1) fun vs H2 s2 hvs => q _ _ (s1.trans s2) (.cons (m (tsame_of s2) hv) hvs)
end
theorem mono_u : Mono t n (ThU K t n) := fun s h _ s' => h _ (s.trans s')
def EqR : Hp → V → V → Prop := fun _ v o => v = o
theorem mono_e : Mono t n EqR := fun _ h => h
section
variable {σ : L2.St}
theorem mu_non : MkR t n (ThU K t n) (tC .non) σ none := fun H Q _ q => q _ H (Same.refl _) fun _ _ => tht_non
theorem mu_int {i : Int} : MkR t n (ThU K t n) (tC (.int i)) σ none := fun H Q _ q => q _ H (Same.refl _) fun _ _ => tht_int
theorem mu_tup {ta : TA} {xs : List V} (h : FlA ta σ xs) (hl : xs.length ≤ 100) (hf : xs.all flatV = true) : MkR t n (ThU K t n) (tTup ta) σ (some xs) := fun H Q hT q =>
  h H _ ⟨size100 hl, fun p np => q _ _ (same_new np) fun H' s' => tht_tup ((hT.same (same_new np)).t s' (sqt upd_same)) hl (flats_of hf)⟩
theorem tht_new {H H' : Hp} {p : Addr} {xs : List V} (hT : Town t n H) (np : H p = none) (s : TSame t n (upd H p (.lst xs)) H') : ThT K H' (.ref p) none :=
  tht_lst (sql (s _ _ (hT.fresh np).1 (hT.fresh np).2 upd_same))
theorem mu_lst {ta : TA} {xs : List V} (h : FlA ta σ xs) (hl : xs.length ≤ 100) : MkR t n (ThU K t n) (tLst ta) σ none := fun H Q hT q =>
  h H _ ⟨size100 hl, fun p np => q _ _ (same_new np) fun H' s' => tht_new hT np s'⟩
theorem mu_rep {ta : TA} {xs : List V} {k : Int} (h : FlA ta σ xs) (hl : xs.length ≤ 100) (h0 : 0 ≤ k) (hk : k ≤ 100) (hr : xs.length * k.toNat ≤ 100) : MkR t n (ThU K t n) (tOp rRep (tLst ta) (tC (.int k))) σ none := fun H Q hT q =>
  h H _ ⟨size100 hl, fun p np => ⟨p, k, xs, rfl, rfl, upd_same, by omega, by omega, size100 hr, fun p2 np2 => q _ _ ((same_new np).trans (same_new np2)) fun H' s' => tht_new (hT.same (same_new np)) np2 s'⟩⟩
theorem me_c {v : V} : MkR t n EqR (tC v) σ v := fun H Q _ q => q _ H (Same.refl _) rfl
theorem me_op {te : TE} {v : V} (h : ∀ H (Q : VK), Q v H → te σ H Q) : MkR t n EqR te σ v := fun H Q _ q => h H _ (q _ H (Same.refl _) rfl)
end
/-- for bad in [..]: .. -/
theorem for_kinds {α : Type} {R : Hp → V → α → Prop} {ta : TA} {tb : TS} {D : Ends} {σ : L2.St} {H : Hp} {j : Nat} {y : Option V} (m : Mono t n R) (os : List α) (σf : Option V → L2.St) (hσ : σ = σf y) (hset : ∀ z v, (σf z).set j (some v) = σf (some v)) (hT : Town t n H) (mk : MkRA t n R ta σ os) (hl : os.length ≤ 100)
    (step : ∀ v o H' D', o ∈ os → TSame t n H H' → Town t n H' → R H' v o → (∀ H'', TSame t n H' H'' → Town t n H'' → Ends.nx D' (σf (some v)) H'') → tb D' (σf (some v)) H')
    (q : ∀ z H', TSame t n H H' → Town t n H' → D.nx (σf z) H') : tFor (iList K (tLst ta)) (gName j) tb D σ H := by
  refine mk H _ hT fun vs H1 s1 hp => ⟨by rw [Paired.length hp]; exact size100 hl, fun l nl => ?_⟩
  have hlen := Paired.length hp
  have hT1 := hT.same s1
  have s2 := same_new (o := .lst vs) nl
  refine ⟨l, rfl, ⟨vs, sql upd_same⟩, ?_⟩
  refine for_it (walk_list (xs := vs)) (fun i σ' H' => ∃ z, σ' = σf z ∧ TSame t n (upd H1 l (.lst vs)) H' ∧ Town t n H') ⟨y, hσ, TSame.refl _, hT1.same s2⟩ (fun i σ' H' _ p => ?_) (fun i x σ' H' H'' hi p y => ?_) (fun σ' H' p => ?_)
  · obtain ⟨z, _, s, _⟩ := p
    exact sql (s _ _ (hT1.fresh nl).1 (hT1.fresh nl).2 upd_same)
  · obtain ⟨z, rfl, s, hT'⟩ := p
    obtain ⟨rfl, hx⟩ := y
    obtain ⟨o, ho, hr⟩ := paired_at2 hp hx
    have s3 := (tsame_of (t := t) (n := n) s2).trans s
    show tb _ ((σf z).set j (some x)) H''
    rw [hset z x]
    exact step x o H'' _ (List.mem_of_getElem? ho) ((tsame_of s1).trans s3) hT' (m s3 hr) fun H3 s4 hT3 => ⟨_, rfl, s.trans s4, hT3⟩
  · obtain ⟨z, rfl, s, hT'⟩ := p
    exact q z H' ((tsame_of (s1.trans s2)).trans s) hT'
/-! ### lists of words -/
theorem dp_strs {H : Hp} : ∀ {ws : List Str}, DpAll K H (ws.map V.str) (ws.map PyData.str)
  | [] => .nil
  | b :: bs => .cons (.str b) dp_strs
theorem canLay_strs : ∀ ws : List Str, ws.all PyData.strOk = true → PyData.canLayAll0 (ws.map PyData.str) = true
  | [], _ => by simp [PyData.canLayAll0]
  | c :: cs, h => by
    rw [List.all_cons, Bool.and_eq_true] at h
    simp only [List.map_cons, PyData.canLayAll0, PyData.canLay0, canLay_strs cs h.2, h.1, Bool.and_self]
theorem depth_strs : ∀ ws : List Str, PyData.depthAll (ws.map PyData.str) ≤ 1
  | [] => by simp [PyData.depthAll]
  | c :: cs => by
    have := depth_strs cs
    simp only [List.map_cons, PyData.depthAll, PyData.depth]
    omega
theorem shaped_strs (ws : List Str) (h : ws.all PyData.strOk = true) : SeqAt.shaped (.list (ws.map PyData.str)) = true := by
  have h1 := canLay_strs ws h
  have h2 := depth_strs ws
  unfold SeqAt.shaped
  refine Bool.and_eq_true_iff.mpr ⟨by simp only [PyData.canLay0, h1], decide_eq_true ?_⟩
  simp only [PyData.depth]
  omega
section
variable {te tb : TE} {vs : List Nat} {σ : L2.St} {j : Nat} {H : Hp}
/-- [f(k) for k in ..] -/
theorem lc_words {J : It} {m : Nat} {G : Hp → Prop} {Y : Nat → Hp → V → Hp → Prop} (wk : Walk J m G Y) (hm : m ≤ 100) {H1 : Hp} {D : Addr} {Qd : Hp → Prop} (hT : Town t n H1) (hD : H1 D = none) (hG : ∀ H', TSame t n H1 H' → G H') (hY : ∀ i H x H', i < m → Y i H x H' → H' = H ∧ x = .int ((i : Nat) : Int)) (g : Nat → Str)
    (hw : ∀ x, wipe ((wipe σ vs).set j (some x)) vs = wipe σ vs)
    (step : ∀ (i : Nat) H4, i < m → TSame t n H1 H4 → Town t n H4 → ∀ Q' : VK, (∀ H5, TSame t n H4 H5 → Town t n H5 → Q' (.str (g i)) H5) → te ((wipe σ vs).set j (some (.int ((i : Nat) : Int)))) H4 Q')
    (q : ∀ H2, TSame t n H1 H2 → Town t n H2 → H2 D = some (.lst (((List.range m).map g).map V.str)) → Qd H2) :
    ∃ W : Nat → Nat → Hp → Prop, (∃ m, W 0 m (upd H1 D (.lst []))) ∧ ∀ i m H, W i m H →
      (J.stop i H ∧ Qd H) ∨ (J.go i H ∧ ∃ Nx : Hp → Prop, (∀ H', Nx H' → ∃ m', m' < m ∧ W (i + 1) m' H') ∧ ∀ x H', J.yld i H x H' → gName j x (wipe σ vs) H' fun σ2 H2 => wipe σ2 vs = wipe σ vs ∧ tYes σ2 H2 fun b H3 =>
        if b = true then te σ2 H3 fun y H4 => ∃ acc, H4 D = some (.lst acc) ∧ acc.length < sizeLine ∧ Nx (upd H4 D (.lst (acc ++ [y]))) else Nx H3) := by
  obtain ⟨Dt, Dn⟩ := hT.fresh hD
  refine lc_it wk (g := gName j) (fun i H => Town t n H ∧ TSame t n H1 H ∧ H D = some (.lst (((List.range i).map g).map V.str))) ⟨hT.upd Dt Dn, tsame_mut (TSame.refl _) hD, upd_same⟩ (fun i H _ p => hG H p.2.1) (fun i x H2 H3 hi p y => ?_) (fun H2 p => q H2 p.2.1 p.1 p.2.2)
  obtain ⟨hT2, s2, hD2⟩ := p
  obtain ⟨rfl, rfl⟩ := hY i H2 x H3 hi y
  refine ⟨hw _, ?_⟩
  unfold tYes
  dsimp only
  rw [if_pos rfl]
  refine step i H3 hi s2 hT2 _ fun H5 s5 hT5 => ?_
  have hD5 := s5 _ _ Dt Dn hD2
  refine ⟨_, hD5, ?_, hT5.upd Dt Dn, tsame_mut (s2.trans s5) hD, ?_⟩
  · rw [List.length_map, List.length_map, List.length_range]
    have := size100 (show i + 1 ≤ 100 by omega)
    omega
  · rw [upd_same, List.range_succ, List.map_append, List.map_append]
    rfl
/-- the words beside it -/
def Words (tb : TE) (σ : L2.St) (ws : List Str) : Prop := ∀ H (Q : VK), (∀ l H', Same H H' → H' l = some (.lst (ws.map V.str)) → Q (.ref l) H') → tb σ H Q
theorem words_rep {b : Str} {k : Int} {ws : List Str} (h0 : 0 ≤ k) (hk : k ≤ 100) (hb : ws = List.replicate k.toNat b) : Words (tOp rRep (tLst (tCons (tC (.str b)) tNil)) (tC (.int k))) σ ws := by
  intro H Q q
  refine ⟨by show 1 ≤ sizeLine; decide, fun l1 n1 => ⟨l1, k, _, rfl, rfl, upd_same, by omega, by omega, ?_, fun l2 n2 => ?_⟩⟩
  · show 1 * k.toNat ≤ sizeLine
    exact size100 (by omega)
  have s1 := same_new (o := .lst [V.str b]) n1
  have s2 := s1.trans (same_new (o := .lst (List.replicate k.toNat [V.str b]).flatten) n2)
  refine q l2 _ s2 ?_
  rw [upd_same, hb, List.map_replicate]
  congr 2
  clear n2 s2 hb h0 hk
  induction k.toNat with
  | zero => rfl
  | succ m ih => rw [List.replicate_succ, List.replicate_succ, List.flatten_cons, ih]; rfl
theorem words_lst {ta : TA} {ws : List Str} (h : FlA ta σ (ws.map V.str)) (hl : ws.length ≤ 100) : Words (tLst ta) σ ws := fun H Q q =>
  h H _ ⟨by rw [List.length_map]; exact size100 hl, fun p np => q _ _ (same_new np) upd_same⟩
theorem ne_rng {m : Int} {Q : Bool → Hp → Prop} (ws : List Str) (g : Nat → Str) (hT : Town t n H) (h0 : 0 ≤ m) (hm : m ≤ 100) (hws : (List.range m.toNat).map g = ws) (hs : ws.all PyData.strOk = true) (hb : Words tb σ ws) (hw : ∀ x, wipe ((wipe σ vs).set j (some x)) vs = wipe σ vs)
    (step : ∀ (i : Nat) H4, i < m.toNat → TSame t n H H4 → Town t n H4 → ∀ Q' : VK, (∀ H5, TSame t n H4 H5 → Town t n H5 → Q' (.str (g i)) H5) → te ((wipe σ vs).set j (some (.int ((i : Nat) : Int)))) H4 Q')
    (q : ∀ H2, TSame t n H H2 → Town t n H2 → Q false H2) : tTest (tOp (rNeD K) (tLc (iRng1 (tCons (tC (.int m)) tNil)) (gName j) tYes te vs) tb) σ H Q := by
  refine ⟨m, rfl, by omega, by omega, fun D hD => ?_⟩
  refine lc_words walk_range (by omega) hT hD (fun _ _ => trivial) (fun i H x H' _ y => ⟨y.1, y.2.trans (congrArg V.int (Int.zero_add _))⟩) g hw step (fun H2 s2 hT2 hD2 => ?_)
  refine hb H2 _ fun l H3 s3 hl => ?_
  rw [hws] at hD2
  exact ne_same (.lst (sql (s3 _ _ hD2)) dp_strs) (.lst (sql hl) dp_strs) (shaped_strs ws hs) ⟨false, rfl, q H3 (s2.trans (tsame_of s3)) (hT2.same s3)⟩
theorem y01 : ∀ (i : Nat) (H : Hp) (x : V) (H' : Hp), i < 2 → YAt [.int 0, .int 1] i H x H' → H' = H ∧ x = .int ((i : Nat) : Int)
  | 0, _, _, _, _, y => ⟨y.1, (Option.some.inj y.2).symm⟩
  | 1, _, _, _, _, y => ⟨y.1, (Option.some.inj y.2).symm⟩
theorem ne_01 {Q : Bool → Hp → Prop} (ws : List Str) (g : Nat → Str) (hT : Town t n H) (hws : (List.range 2).map g = ws) (hs : ws.all PyData.strOk = true) (hb : Words tb σ ws) (hw : ∀ x, wipe ((wipe σ vs).set j (some x)) vs = wipe σ vs)
    (step : ∀ (i : Nat) H4, i < 2 → TSame t n H H4 → Town t n H4 → ∀ Q' : VK, (∀ H5, TSame t n H4 H5 → Town t n H5 → Q' (.str (g i)) H5) → te ((wipe σ vs).set j (some (.int ((i : Nat) : Int)))) H4 Q')
    (q : ∀ H2, TSame t n H H2 → Town t n H2 → Q false H2) : tTest (tOp (rNeD K) (tLc (iTup K (tTup (tCons (tC (.int 0)) (tCons (tC (.int 1)) tNil)))) (gName j) tYes te vs) tb) σ H Q := by
  refine ⟨by show 2 ≤ sizeLine; decide, fun p np => ⟨p, rfl, ⟨_, sqt upd_same⟩, fun D hD => ?_⟩⟩
  have s1 := same_new (o := .tup [.int 0, .int 1]) np
  have hT1 := hT.same s1
  have hp := sqt (K := K) (upd_same (H := H) (a := p) (o := .tup [.int 0, .int 1]))
  refine lc_words (walk_tup (xs := [.int 0, .int 1])) (by decide) hT1 hD (fun H' s => hT1.t s hp) y01 g hw (fun i H4 hi s4 => step i H4 hi ((tsame_of s1).trans s4)) (fun H2 s2 hT2 hD2 => ?_)
  refine hb H2 _ fun l H3 s3 hl => ?_
  have hD2 : H2 D = some (.lst (((List.range 2).map g).map V.str)) := hD2
  rw [hws] at hD2
  exact ne_same (.lst (sql (s3 _ _ hD2)) dp_strs) (.lst (sql hl) dp_strs) (shaped_strs ws hs) ⟨false, rfl, q H3 ((tsame_of s1).trans (s2.trans (tsame_of s3))) (hT2.same s3)⟩
theorem eq_01 {Q : VK} (ws : List Str) (g : Nat → Str) (hT : Town t n H) (hws : (List.range 2).map g = ws) (hs : ws.all PyData.strOk = true) (hb : Words tb σ ws) (hw : ∀ x, wipe ((wipe σ vs).set j (some x)) vs = wipe σ vs)
    (step : ∀ (i : Nat) H4, i < 2 → TSame t n H H4 → Town t n H4 → ∀ Q' : VK, (∀ H5, TSame t n H4 H5 → Town t n H5 → Q' (.str (g i)) H5) → te ((wipe σ vs).set j (some (.int ((i : Nat) : Int)))) H4 Q')
    (q : ∀ H2, TSame t n H H2 → Town t n H2 → Q (.bl true) H2) : tOp (rEqD K) (tLc (iTup K (tTup (tCons (tC (.int 0)) (tCons (tC (.int 1)) tNil)))) (gName j) tYes te vs) tb σ H Q := by
  refine ⟨by show 2 ≤ sizeLine; decide, fun p np => ⟨p, rfl, ⟨_, sqt upd_same⟩, fun D hD => ?_⟩⟩
  have s1 := same_new (o := .tup [.int 0, .int 1]) np
  have hT1 := hT.same s1
  have hp := sqt (K := K) (upd_same (H := H) (a := p) (o := .tup [.int 0, .int 1]))
  refine lc_words (walk_tup (xs := [.int 0, .int 1])) (by decide) hT1 hD (fun H' s => hT1.t s hp) y01 g hw (fun i H4 hi s4 => step i H4 hi ((tsame_of s1).trans s4)) (fun H2 s2 hT2 hD2 => ?_)
  refine hb H2 _ fun l H3 s3 hl => ?_
  have hD2 : H2 D = some (.lst (((List.range 2).map g).map V.str)) := hD2
  rw [hws] at hD2
  exact eq_same (.lst (sql (s3 _ _ hD2)) dp_strs) (.lst (sql hl) dp_strs) (shaped_strs ws hs) (q H3 ((tsame_of s1).trans (s2.trans (tsame_of s3))) (hT2.same s3))
end
end
end Oa
namespace Oa
open PySem PySem.Spec PyProof.Rows L2 Oat
def cH : Case := ⟨[0, 1], 2, [none, none, some 1], 0⟩
def cL : Case := ⟨[0, 1], 3, [none, none, some 900], 0⟩
theorem cH_least : least cH = none := by decide +kernel
theorem cH_dear : dearL cH = [none, none, none] := by decide +kernel
theorem cH_blocked : blockedL cH = [2] := by decide +kernel
theorem way01 : wayL [0,1] 2 = [0,1,2] := by decide +kernel
theorem part01 : partL [0,1] 1 = [1,2] := by decide +kernel
theorem cL_least : ∃ y, least cL = some y ∧ 1500 < y := by
  have h : (match least cL with | some y => decide (1500 < y) | none => false) = true := by decide +kernel
  cases e : least cL with
  | none => rw [e] at h; cases h
  | some y => rw [e] at h; exact ⟨y, rfl, of_decide_eq_true h⟩
theorem cH_leaving : leavingL cH 2 = [V.non, V.non, V.int 4] := by decide +kernel
theorem w_land : wordOf (some "BadLand") = "land" := by decide +kernel
theorem w_works : wordOf (some "BadWorks") = "works" := by decide +kernel
theorem w_wants : wordOf (some "BadWants") = "wants" := by decide +kernel
theorem w_kinds : (List.range 10).map (fun k => wordOf (kindOf k)) = (["told", "none", "none", "told", "none", "none", "told", "told", "paper", "told"] : List Str) := by decide +kernel
theorem wf01 : WfL [0, 1] := by
  intro i hi
  have hi : i < 2 := hi
  match i, hi with
  | 0, _ => decide
  | 1, _ => decide
theorem wo_one {u : Nat} (hu : u ≤ 999) : WantsOk [none, none, some u] := by
  intro i v h
  match i, h with
  | 0, h => cases h
  | 1, h => cases h
  | 2, h =>
    have := Option.some.inj (Option.some.inj h)
    omega
  | i + 3, h => simp at h
theorem kind_errN : ∀ k, k < 10 → ∀ x, kindOf k = some x → x ∈ errN := by
  intro k hk x h
  unfold kindOf at h
  split at h
  · cases h; decide +kernel
  split at h
  · cases h; decide +kernel
  split at h
  · cases h; decide +kernel
  split at h
  · cases h; decide +kernel
  split at h
  · cases h; decide +kernel
  · cases h
section
variable {P : Program} {w : World} {K : PySem.W.Frag} {mg : Str → Option Value} {base : Heap} {t n : Addr}
theorem seq_kinds {α : Type} {R : Hp → V → α → Prop} {ta : TA} {tb tr : TS} {D : Ends} {σ : L2.St} {H : Hp} {j : Nat} {y : Option V} (m : Mono t n R) (os : List α) (σf : Option V → L2.St) (hσ : σ = σf y) (hset : ∀ z v, (σf z).set j (some v) = σf (some v)) (hT : Town t n H) (mk : MkRA t n R ta σ os) (hl : os.length ≤ 100)
    (step : ∀ v o H' D', o ∈ os → TSame t n H H' → Town t n H' → R H' v o → (∀ H'', TSame t n H' H'' → Town t n H'' → Ends.nx D' (σf (some v)) H'') → tb D' (σf (some v)) H')
    (q : ∀ z H', TSame t n H H' → Town t n H' → tr D (σf z) H') : tSeq (tFor (iList K (tLst ta)) (gName j) tb) tr D σ H := by
  unfold tSeq
  exact for_kinds (R := R) (D := { D with nx := tr D }) @m os σf hσ hset hT mk hl step q
theorem and_no {t u : TT} {σ : L2.St} {H : Hp} {Q : Bool → Hp → Prop} (b : Bool) (h : ∀ Q' : Bool → Hp → Prop, Q' b H → t σ H Q') (h1 : b = true → u σ H Q) (h2 : b = false → Q false H) : tAnd t u σ H Q := by
  refine h _ ?_
  cases b with
  | true => exact iteT (h1 rfl)
  | false => exact iteF (h2 rfl)
theorem ok_law (T : Txt K mg) (R : Errs K mg) (N : PlanE K mg) {f : Addr} {fd : FuncData} (F : FunD K "law" "law" (defArgs s_law) (defBody s_law) (defScope s_law) [] [] f fd) : FnOk P w K mg base CX0 9 f fd ["script"] (sp_law K) := by
  refine okF F sc_law (fun vs H Q E h => ?_) (fun cdv A outer s H vs Q E hr h => ?_)
  · obtain ⟨a, ns, rfl, _⟩ := h
    rfl
  · obtain ⟨sc, ns, rfl, hS, q⟩ := h
    refine ⟨_, (pss_cons (ps_set (i := 1) sc_law.nd rfl (Or.inr rfl) (pcall (c__law_town T) (hr.mono (by omega)) (pa_cons (pv 0) pa_nil)))
      (pss_cons (ps_set (i := 2) sc_law.nd rfl (Or.inr rfl) (pe_tup (pa_cons pe_non (pa_cons pe_int (pa_cons pe_int pa_nil)))))
      (pss_cons (ps_if (pt_not (pt_val (pcall0 (c__law_kinds T) (hr.mono (by omega))))) (pss_one (ps_ret pe_bl)) pss_nil)
      (pss_cons (ps_for PassesOwn.never rfl (piL K (pe_lst (pa_cons pe_non (pa_cons pe_int (pa_cons (pe_tup pa_nil) (pa_cons (pe_tup (pa_cons pe_int pa_nil)) (pa_cons (pe_tup (pa_cons pe_non (pa_cons pe_int pa_nil))) pa_nil))))))) (pg_name (i := 3) sc_law.nd rfl (Or.inr rfl)) (pss_one (ps_if (PW.pt (pw_or (pt_cmpR (neDt K hr.units) (pe_lc (own := [("k", 5)]) (g := gName 5) rfl sc_law.nd (pi_range1 rfl T.b_range (pa_cons pe_int pa_nil)) (blkOk_by (own := [("k", 5)]) (N := ["script", "town", "road", "bad", "hard", "k"]) (sc := (defScope s_law)) (by decide +kernel)) (fun _ _ _ _ _ => pg_name (i := 5) sc_law.nd rfl (Or.inl rfl)) (fun _ _ _ _ _ => pts_nil) (fun _ _ _ _ _ => (pcall (c__law_asked T R N) (hr.mono (by omega)) (pa_cons (pv 5) (pa_cons (pv 3) (pa_cons pe_non (pa_cons pe_non (pa_cons pe_non pa_nil)))))))) (pe_op op_rep (pe_lst (pa_cons pe_str pa_nil)) pe_int) (nomark _)) (pw_or1 (pt_cmpR (neDt K hr.units) (pe_lc (own := [("k", 5)]) (g := gName 5) rfl sc_law.nd (piT K (pe_tup (pa_cons pe_int (pa_cons pe_int pa_nil)))) (blkOk_by (own := [("k", 5)]) (N := ["script", "town", "road", "bad", "hard", "k"]) (sc := (defScope s_law)) (by decide +kernel)) (fun _ _ _ _ _ => pg_name (i := 5) sc_law.nd rfl (Or.inl rfl)) (fun _ _ _ _ _ => pts_nil) (fun _ _ _ _ _ => (pcall (c__law_lone_asked T R) (hr.mono (by omega)) (pa_cons (pv 5) (pa_cons (pv 3) (pa_cons pe_non pa_nil)))))) (pe_op op_rep (pe_lst (pa_cons pe_str pa_nil)) pe_int) (nomark _))))) (pss_one (ps_ret pe_bl)) pss_nil)))
      (pss_cons (ps_for PassesOwn.never rfl (piL K (pe_lst (pa_cons pe_non (pa_cons (pe_tup (pa_cons pe_int (pa_cons pe_int pa_nil))) (pa_cons (pe_tup (pa_cons pe_int (pa_cons pe_int pa_nil))) (pa_cons (pe_lst (pa_cons pe_int (pa_cons pe_int pa_nil))) pa_nil)))))) (pg_name (i := 3) sc_law.nd rfl (Or.inr rfl)) (pss_one (ps_if (pt_cmpR (neDt K hr.units) (pe_lc (own := [("k", 5)]) (g := gName 5) rfl sc_law.nd (pi_range1 rfl T.b_range (pa_cons pe_int pa_nil)) (blkOk_by (own := [("k", 5)]) (N := ["script", "town", "road", "bad", "hard", "k"]) (sc := (defScope s_law)) (by decide +kernel)) (fun _ _ _ _ _ => pg_name (i := 5) sc_law.nd rfl (Or.inl rfl)) (fun _ _ _ _ _ => pts_nil) (fun _ _ _ _ _ => (pcall (c__law_asked T R N) (hr.mono (by omega)) (pa_cons (pv 5) (pa_cons (pv 2) (pa_cons (pv 3) (pa_cons pe_non (pa_cons pe_int pa_nil)))))))) (pe_op op_rep (pe_lst (pa_cons pe_str pa_nil)) pe_int) (nomark _)) (pss_one (ps_ret pe_bl)) pss_nil)))
      (pss_cons (ps_for PassesOwn.never rfl (piL K (pe_lst (pa_cons pe_non (pa_cons (pe_op op_sub pe_int pe_int) (pa_cons pe_int (pa_cons pe_bl (pa_cons pe_str pa_nil))))))) (pg_name (i := 3) sc_law.nd rfl (Or.inr rfl)) (pss_cons (ps_if (pt_cmpR (neDt K hr.units) (pe_lc (own := [("k", 5)]) (g := gName 5) rfl sc_law.nd (pi_range1 rfl T.b_range (pa_cons pe_int pa_nil)) (blkOk_by (own := [("k", 5)]) (N := ["script", "town", "road", "bad", "hard", "k"]) (sc := (defScope s_law)) (by decide +kernel)) (fun _ _ _ _ _ => pg_name (i := 5) sc_law.nd rfl (Or.inl rfl)) (fun _ _ _ _ _ => pts_nil) (fun _ _ _ _ _ => (pcall (c__law_asked T R N) (hr.mono (by omega)) (pa_cons (pv 5) (pa_cons (pv 2) (pa_cons (pe_tup (pa_cons pe_int (pa_cons pe_int pa_nil))) (pa_cons pe_non (pa_cons (pv 3) pa_nil)))))))) (pe_op op_rep (pe_lst (pa_cons pe_str pa_nil)) pe_int) (nomark _)) (pss_one (ps_ret pe_bl)) pss_nil)
      (pss_one (ps_if (PW.pt (pw_and (pt_cmpR (neDt K hr.units) (pv 3) pe_int (nomark _)) (pw_and1 (pt_cmpR (neDt K hr.units) (pe_lc (own := [("k", 5)]) (g := gName 5) rfl sc_law.nd (piT K (pe_tup (pa_cons pe_int (pa_cons pe_int pa_nil)))) (blkOk_by (own := [("k", 5)]) (N := ["script", "town", "road", "bad", "hard", "k"]) (sc := (defScope s_law)) (by decide +kernel)) (fun _ _ _ _ _ => pg_name (i := 5) sc_law.nd rfl (Or.inl rfl)) (fun _ _ _ _ _ => pts_nil) (fun _ _ _ _ _ => (pcall (c__law_lone_asked T R) (hr.mono (by omega)) (pa_cons (pv 5) (pa_cons (pv 2) (pa_cons (pv 3) pa_nil)))))) (pe_op op_rep (pe_lst (pa_cons pe_str pa_nil)) pe_int) (nomark _))))) (pss_one (ps_ret pe_bl)) pss_nil))))
      (pss_cons (ps_for PassesOwn.never rfl (piL K (pe_lst (pa_cons pe_non (pa_cons (pe_tup pa_nil) (pa_cons (pe_tup (pa_cons pe_non pa_nil)) (pa_cons (pe_tup (pa_cons pe_non (pa_cons pe_int (pa_cons pe_non pa_nil)))) (pa_cons (pe_op op_rep (pe_lst (pa_cons pe_non pa_nil)) pe_int) pa_nil))))))) (pg_name (i := 3) sc_law.nd rfl (Or.inr rfl)) (pss_one (ps_if (pt_cmpR (neDt K hr.units) (pe_lc (own := [("k", 5)]) (g := gName 5) rfl sc_law.nd (pi_range1 rfl T.b_range (pa_cons pe_int pa_nil)) (blkOk_by (own := [("k", 5)]) (N := ["script", "town", "road", "bad", "hard", "k"]) (sc := (defScope s_law)) (by decide +kernel)) (fun _ _ _ _ _ => pg_name (i := 5) sc_law.nd rfl (Or.inl rfl)) (fun _ _ _ _ _ => pts_nil) (fun _ _ _ _ _ => (pcall (c__law_asked T R N) (hr.mono (by omega)) (pa_cons (pv 5) (pa_cons (pv 2) (pa_cons (pe_tup (pa_cons pe_int (pa_cons pe_int pa_nil))) (pa_cons (pv 3) (pa_cons (pcall (c__law_draw T) (hr.mono (by omega)) (pa_cons (pv 1) (pa_cons pe_int pa_nil))) pa_nil)))))))) (pe_op op_rep (pe_lst (pa_cons pe_str pa_nil)) pe_int) (nomark _)) (pss_one (ps_ret pe_bl)) pss_nil)))
      (pss_cons (ps_set (i := 4) sc_law.nd rfl (Or.inr rfl) (pe_tup (pa_cons pe_non (pa_cons pe_non (pa_cons pe_int pa_nil)))))
      (pss_cons (ps_if (pt_cmpR (neDt K hr.units) (pe_lc (own := [("k", 5)]) (g := gName 5) rfl sc_law.nd (pi_range1 rfl T.b_range (pa_cons pe_int pa_nil)) (blkOk_by (own := [("k", 5)]) (N := ["script", "town", "road", "bad", "hard", "k"]) (sc := (defScope s_law)) (by decide +kernel)) (fun _ _ _ _ _ => pg_name (i := 5) sc_law.nd rfl (Or.inl rfl)) (fun _ _ _ _ _ => pts_nil) (fun _ _ _ _ _ => (pcall (c__law_asked T R N) (hr.mono (by omega)) (pa_cons (pv 5) (pa_cons (pv 2) (pa_cons (pe_tup (pa_cons pe_int (pa_cons pe_int pa_nil))) (pa_cons (pv 4) (pa_cons pe_int pa_nil)))))))) (pe_lst (pa_cons pe_str (pa_cons pe_str (pa_cons pe_str (pa_cons pe_str (pa_cons pe_str (pa_cons pe_str (pa_cons pe_str (pa_cons pe_str (pa_cons pe_str (pa_cons pe_str pa_nil))))))))))) (nomark _)) (pss_one (ps_ret pe_bl)) pss_nil)
      (pss_cons (ps_if (PW.pt (pw_or (pt_cmpR op_notN (pcallD (c_least T) (hr.mono (by omega)) pass0 (pa_cons (pv 2) (pa_cons (pe_tup (pa_cons pe_int (pa_cons pe_int pa_nil))) (pa_cons (pv 4) pa_nil)))) pe_non (nomark _)) (pw_or (pt_cmpR (neDt K hr.units) (pcallD (c_blocked T) (hr.mono (by omega)) pass0 (pa_cons (pv 2) (pa_cons (pe_tup (pa_cons pe_int (pa_cons pe_int pa_nil))) (pa_cons (pv 4) pa_nil)))) (pe_lst (pa_cons pe_int pa_nil)) (nomark _)) (pw_or1 (pt_cmpR (neDt K hr.units) (pcallD (c_dearer T) (hr.mono (by omega)) pass0 (pa_cons (pv 2) (pa_cons (pe_tup (pa_cons pe_int (pa_cons pe_int pa_nil))) (pa_cons (pv 4) pa_nil)))) (pe_op op_rep (pe_lst (pa_cons pe_non pa_nil)) pe_int) (nomark _)))))) (pss_one (ps_ret pe_bl)) pss_nil)
      (pss_cons (ps_if (PW.pt (pw_or (pt_cmpR op_ne (pcall (c__law_asked T R N) (hr.mono (by omega)) (pa_cons pe_int (pa_cons (pv 2) (pa_cons (pe_tup (pa_cons pe_int (pa_cons pe_int pa_nil))) (pa_cons (pe_tup (pa_cons pe_non (pa_cons pe_non (pa_cons pe_int pa_nil)))) (pa_cons pe_int pa_nil)))))) pe_str (nomark _)) (pw_or1 (pt_cmpR (neDt K hr.units) (pcall (c_price_of_leaving T) (hr.mono (by omega)) (pa_cons (pv 2) (pa_cons (pe_tup (pa_cons pe_int (pa_cons pe_int pa_nil))) (pa_cons (pv 4) pa_nil)))) (pe_lst (pa_cons pe_non (pa_cons pe_non (pa_cons pe_int pa_nil)))) (nomark _))))) (pss_one (ps_ret pe_bl)) pss_nil)
      (pss_one (ps_ret (pe_and (pe_cmpR (eqDt K hr.units) (pe_lc (own := [("k", 5)]) (g := gName 5) rfl sc_law.nd (piT K (pe_tup (pa_cons pe_int (pa_cons pe_int pa_nil)))) (blkOk_by (own := [("k", 5)]) (N := ["script", "town", "road", "bad", "hard", "k"]) (sc := (defScope s_law)) (by decide +kernel)) (fun _ _ _ _ _ => pg_name (i := 5) sc_law.nd rfl (Or.inl rfl)) (fun _ _ _ _ _ => pts_nil) (fun _ _ _ _ _ => (pcall (c__law_lone_asked T R) (hr.mono (by omega)) (pa_cons (pv 5) (pa_cons (pv 2) (pa_cons pe_int pa_nil)))))) (pe_op op_rep (pe_lst (pa_cons pe_str pa_nil)) pe_int) (nomark _)) (pe_and (pe_cmpR (eqDt K hr.units) (pcall (c_way_to T) (hr.mono (by omega)) (pa_cons (pv 2) (pa_cons pe_int pa_nil))) (pe_lst (pa_cons pe_int (pa_cons pe_int (pa_cons pe_int pa_nil)))) (nomark _)) (pe_one (pe_cmpR (eqDt K hr.units) (pcall (c_part_of T) (hr.mono (by omega)) (pa_cons (pv 2) (pa_cons pe_int pa_nil))) (pe_lst (pa_cons pe_int (pa_cons pe_int pa_nil))) (nomark _)))))))))))))))))), ?_⟩
    refine ⟨_, rfl, sc, ns, rfl, hS, fun t n H1 hT1 s1 => ?_⟩
    refine ⟨by show 3 ≤ sizeLine; decide, fun rd nrd => ?_⟩
    have hT2 := hT1.same (same_new (o := .tup [.non, .int 0, .int 1]) nrd)
    have hR2 : SqT K _ rd (landV [0, 1]) := sqt (upd_same (H := H1) (a := rd) (o := .tup [.non, .int 0, .int 1]))
    generalize upd H1 rd (.tup [.non, .int 0, .int 1]) = H2 at hT2 hR2
    clear hT1 s1 nrd
    have eL : ("BadLand" : Str) ∈ errN := by decide +kernel
    have eW : ("BadWorks" : Str) ∈ errN := by decide +kernel
    have eN : ("BadWants" : Str) ∈ errN := by decide +kernel
    -- kinds
    dsimp only [gName]
    show tSeq (tIfS _ _ _) _ _ [some (.ref sc), some (.ref t), some (.ref rd), none, none, none] H2
    refine if_no (fun H' => Same H2 H') (fun Q' q' => ?_) (fun H3 s3 => ?_)
    · exact ⟨rfl, fun H' s' => ⟨true, rfl, q' H' s'⟩⟩
    have hT3 := hT2.same s3
    have hR3 := same_t s3 hR2
    clear hT2 hR2 s3
    -- no lands
    refine seq_kinds (R := ThU K t n) (y := none) mono_u [none, none, some [], some [.int 0], some [.non, .int 1]] (fun y => [some (.ref sc), some (.ref t), some (.ref rd), y, none, none]) rfl (fun _ _ => rfl) hT3 ?_ (by decide) (fun v o H' D' ho s' hT' hv q' => ?_) (fun z4 H4 s4 hT4 => ?_)
    · exact mr_cons mono_u mu_non (mr_cons mono_u mu_int (mr_cons mono_u (mu_tup (fun _ _ q => q) (by decide) rfl) (mr_cons mono_u (mu_tup (fun _ _ q => q) (by decide) rfl) (mr_cons mono_u (mu_tup (fun _ _ q => q) (by decide) rfl) mr_nil))))
    · have hb : landB o = false := by
        have : ∀ o ∈ ([none, none, some [], some [.int 0], some [.non, .int 1]] : List (Option (List V))), landB o = false := by decide +kernel
        exact this o ho
      refine ifS_no2 (fun H'' => TSame t n H' H'' ∧ Town t n H'') (fun Q' qq => ?_) (fun H'' s => q' H'' s.1 s.2)
      refine or_no (fun H'' => TSame t n H' H'' ∧ Town t n H'') (fun Q'' q'' => ?_) (fun Hb sb => ?_)
      · refine ne_rng (List.replicate 10 "land") (fun _ => "land") hT' (by decide) (by decide) (by decide +kernel) (by decide +kernel) (words_rep (by decide) (by decide) rfl) (fun _ => by rfl) (fun i H4 hi s4 hT4 Q2 q2 => ?_) (fun H2 s2 hT2 => q'' _ ⟨s2, hT2⟩)
        refine ⟨_, rfl, _, rfl, i, v, .non, .non, .non, some "BadLand", rfl, hi, .inl ⟨_, rfl, .inl ⟨rfl, o, hv.s s4, hb⟩⟩, (fun x hx => by cases hx; exact eL), fun H5 s5 => ?_⟩
        rw [w_land]
        exact q2 H5 (tsame_of s5) (hT4.same s5)
      · refine ne_01 (List.replicate 2 "land") (fun _ => "land") sb.2 (by decide +kernel) (by decide +kernel) (words_rep (by decide) (by decide) rfl) (fun _ => by rfl) (fun i H4 hi s4 hT4 Q2 q2 => ?_) (fun H2 s2 hT2 => qq _ ⟨sb.1.trans s2, hT2⟩)
        exact ⟨_, rfl, _, rfl, i, v, .non, rfl, .inl ⟨o, hv.s (sb.1.trans s4), hb⟩, fun H5 s5 => q2 H5 (tsame_of s5) (hT4.same s5)⟩
    have hR4 := hT3.t s4 hR3
    clear hT3 hR3 s4
    -- no works
    refine seq_kinds (R := ThU K t n) (y := z4) mono_u [none, some [.int 0, .int 5], some [.int 1, .int 21], none] (fun y => [some (.ref sc), some (.ref t), some (.ref rd), y, none, none]) rfl (fun _ _ => rfl) hT4 ?_ (by decide) (fun v o H' D' ho s' hT' hv q' => ?_) (fun z5 H5 s5 hT5 => ?_)
    · exact mr_cons mono_u mu_non (mr_cons mono_u (mu_tup (fun _ _ q => q) (by decide) rfl) (mr_cons mono_u (mu_tup (fun _ _ q => q) (by decide) rfl) (mr_cons mono_u (mu_lst (xs := [.int 1, .int 5]) (fun _ _ q => q) (by decide)) mr_nil)))
    · have hb : worksB o = false := by
        have : ∀ o ∈ ([none, some [.int 0, .int 5], some [.int 1, .int 21], none] : List (Option (List V))), worksB o = false := by decide +kernel
        exact this o ho
      have hR' := hT4.t s' hR4
      refine ifS_no2 (fun H'' => TSame t n H' H'' ∧ Town t n H'') (fun Q' qq => ?_) (fun H'' s => q' H'' s.1 s.2)
      refine ne_rng (List.replicate 10 "works") (fun _ => "works") hT' (by decide) (by decide) (by decide +kernel) (by decide +kernel) (words_rep (by decide) (by decide) rfl) (fun _ => by rfl) (fun i H4 hi s4 hT4 Q2 q2 => ?_) (fun H2 s2 hT2 => qq _ ⟨s2, hT2⟩)
      refine ⟨_, rfl, _, rfl, _, rfl, i, .ref rd, v, .non, .int 0, some "BadWorks", rfl, hi, .inl ⟨_, rfl, .inr ⟨rd, [0, 1], rfl, hT'.t s4 hR', by decide, wf01, .inl ⟨rfl, .inl ⟨o, hv.s s4, hb⟩⟩⟩⟩, (fun x hx => by cases hx; exact eW), fun H5 s5 => ?_⟩
      rw [w_works]
      exact q2 H5 (tsame_of s5) (hT4.same s5)
    have hR5 := hT4.t s5 hR4
    clear hT4 hR4 s5
    -- no number left
    refine seq_kinds (R := EqR) (y := z5) mono_e [.non, .int (0 - 1), .int 3, .bl true, .str "1"] (fun y => [some (.ref sc), some (.ref t), some (.ref rd), y, none, none]) rfl (fun _ _ => rfl) hT5 ?_ (by decide) (fun v o H' D' ho s' hT' hv q' => ?_) (fun z6 H6 s6 hT6 => ?_)
    · exact mr_cons mono_e me_c (mr_cons mono_e (me_op fun _ _ q => ⟨_, _, rfl, rfl, q⟩) (mr_cons mono_e me_c (mr_cons mono_e me_c (mr_cons mono_e me_c mr_nil))))
    · have hv : v = o := hv
      subst hv
      have hR' := hT5.t s' hR5
      have hf : Flat v := by
        have : ∀ o ∈ ([.non, .int (0 - 1), .int 3, .bl true, .str "1"] : List V), flatV o = true := by decide +kernel
        exact flat_of (this v ho)
      have hw2 : isWholeV v 0 2 = false := by
        have : ∀ o ∈ ([.non, .int (0 - 1), .int 3, .bl true, .str "1"] : List V), isWholeV o 0 2 = false := by decide +kernel
        exact this v ho
      refine if_no (fun H'' => TSame t n H' H'' ∧ Town t n H'') (fun Q' qq => ?_) (fun H7 s7 => ?_)
      · refine ne_rng (List.replicate 10 "works") (fun _ => "works") hT' (by decide) (by decide) (by decide +kernel) (by decide +kernel) (words_rep (by decide) (by decide) rfl) (fun _ => by rfl) (fun i H4 hi s4 hT4 Q2 q2 => ?_) (fun H2 s2 hT2 => qq _ ⟨s2, hT2⟩)
        refine ⟨_, rfl, _, rfl, by show 2 ≤ sizeLine; decide, fun p np => ?_⟩
        have s5 := same_new (o := .tup [.int 2, .int 5]) np
        refine ⟨_, rfl, i, .ref rd, .ref p, .non, v, some "BadWorks", rfl, hi, .inl ⟨_, rfl, .inr ⟨rd, [0, 1], rfl, same_t s5 (hT'.t s4 hR'), by decide, wf01, .inl ⟨rfl, .inr ⟨p, 2, 5, rfl, sqt upd_same, by decide, by decide, by decide, by decide, hf, hw2⟩⟩⟩⟩, (fun x hx => by cases hx; exact eW), fun H5 s6 => ?_⟩
        rw [w_works]
        exact q2 H5 (tsame_of (s5.trans s6)) (hT4.same (s5.trans s6))
      · refine ifS_no2 (fun H'' => TSame t n H7 H'' ∧ Town t n H'') (fun Q' qq => ?_) (fun H'' s => q' H'' (s7.1.trans s.1) s.2)
        have done : (Q' false H7) := qq _ ⟨TSame.refl _, s7.2⟩
        refine and_no (!decide (v = .int 3)) (fun Q'' q'' => ?_) (fun h3 => ?_) (fun _ => done)
        · have key : ∀ v ∈ ([.non, .int (0 - 1), .int 3, .bl true, .str "1"] : List V), ∃ d, Dp K H7 v d ∧ SeqAt.shaped d = true ∧ (!PyData.eqv d (.int 3)) = !decide (v = .int 3) := by
            intro v hv
            simp only [List.mem_cons, List.not_mem_nil, or_false] at hv
            rcases hv with rfl | rfl | rfl | rfl | rfl
            · exact ⟨_, .non, by decide +kernel, by decide +kernel⟩
            · exact ⟨_, .int _, by decide +kernel, by decide +kernel⟩
            · exact ⟨_, .int _, by decide +kernel, by decide +kernel⟩
            · exact ⟨_, .bl _, by decide +kernel, by decide +kernel⟩
            · exact ⟨_, .str _, by decide +kernel, by decide +kernel⟩
          obtain ⟨d, h1, h2, h3⟩ := key v ho
          refine ⟨_, rfl, d, .int 3, h1, .int 3, h2, by decide +kernel, _, rfl, ?_⟩
          rw [h3]
          exact q''
        · have hR7 := hT'.t s7.1 hR'
          refine ne_01 (List.replicate 2 "land") (fun _ => "land") s7.2 (by decide +kernel) (by decide +kernel) (words_rep (by decide) (by decide) rfl) (fun _ => by rfl) (fun i H4 hi s4 hT4 Q2 q2 => ?_) (fun H2 s2 hT2 => qq _ ⟨s2, hT2⟩)
          exact ⟨_, rfl, _, rfl, _, rfl, i, .ref rd, v, rfl, .inr ⟨rd, [0, 1], rfl, s7.2.t s4 hR7, by decide, wf01, hf, hw2⟩, fun H5 s5 => q2 H5 (tsame_of s5) (hT4.same s5)⟩
    have hR6 := hT5.t s6 hR5
    clear hT5 hR5 s6
    -- no wants
    refine seq_kinds (R := ThU K t n) (y := z6) mono_u [none, some [], some [.non], some [.non, .int 1000, .non], none] (fun y => [some (.ref sc), some (.ref t), some (.ref rd), y, none, none]) rfl (fun _ _ => rfl) hT6 ?_ (by decide) (fun v o H' D' ho s' hT' hv q' => ?_) (fun z7 H7 s7 hT7 => ?_)
    · exact mr_cons mono_u mu_non (mr_cons mono_u (mu_tup (fun _ _ q => q) (by decide) rfl) (mr_cons mono_u (mu_tup (fun _ _ q => q) (by decide) rfl) (mr_cons mono_u (mu_tup (fun _ _ q => q) (by decide) rfl) (mr_cons mono_u (mu_rep (xs := [.non]) (fun _ _ q => q) (by decide) (by decide) (by decide) (by decide)) mr_nil))))
    · have hb : wantsB 3 o = false := by
        have : ∀ o ∈ ([none, some [], some [.non], some [.non, .int 1000, .non], none] : List (Option (List V))), wantsB 3 o = false := by decide +kernel
        exact this o ho
      have hR' := hT6.t s' hR6
      refine ifS_no2 (fun H'' => TSame t n H' H'' ∧ Town t n H'') (fun Q' qq => ?_) (fun H'' s => q' H'' s.1 s.2)
      refine ne_rng (List.replicate 10 "wants") (fun _ => "wants") hT' (by decide) (by decide) (by decide +kernel) (by decide +kernel) (words_rep (by decide) (by decide) rfl) (fun _ => by rfl) (fun i H4 hi s4 hT4 Q2 q2 => ?_) (fun H2 s2 hT2 => qq _ ⟨s2, hT2⟩)
      refine ⟨_, rfl, _, rfl, by show 2 ≤ sizeLine; decide, fun p np => ?_⟩
      have s5 := same_new (o := .tup [.int 2, .int 5]) np
      have hT5 := hT4.same s5
      refine ⟨_, rfl, _, rfl, t, n, 3, rfl, hT5, by decide, by decide, fun r H8 hr8 hT8 s8 => ?_⟩
      have s48 := s4.trans ((tsame_of s5).trans s8)
      refine ⟨i, .ref rd, .ref p, v, .int ((r : Nat) : Int), some "BadWants", rfl, hi, .inl ⟨_, rfl, .inr ⟨rd, [0, 1], rfl, hT'.t s48 hR', by decide, wf01, .inr ⟨rfl, p, 2, 5, rfl, hT5.t s8 (sqt upd_same), by decide, by decide, by decide, by decide, .inr (.inl ⟨_, rfl⟩), decide_eq_true ⟨by omega, by omega⟩, o, hv.s s48, hb⟩⟩⟩, (fun x hx => by cases hx; exact eN), fun H9 s9 => ?_⟩
      rw [w_wants]
      exact q2 H9 ((tsame_of s5).trans (s8.trans (tsame_of s9))) (hT8.same s9)
    have hR7 := hT6.t s7 hR6
    clear hT6 hR6 s7
    -- hard
    refine ⟨by show 3 ≤ sizeLine; decide, fun hd nhd => ?_⟩
    have s8 := same_new (o := .tup [.non, .non, .int 1]) nhd
    have hT8 := hT7.same s8
    have hR8 := same_t s8 hR7
    have hD8 : SqT K _ hd (wantsV cH.W) := sqt (upd_same (H := H7) (a := hd) (o := .tup [.non, .non, .int 1]))
    generalize upd H7 hd (.tup [.non, .non, .int 1]) = H8 at s8 hT8 hR8 hD8
    clear hT7 hR7 s8 nhd
    have case1 : ∀ {H : Hp} {b : Addr}, SqT K H rd (landV [0, 1]) → SqT K H hd (wantsV cH.W) → SqT K H b (worksV 1 2) → CaseAt K H rd b hd cH 1 := fun h1 h2 h3 =>
      ⟨h1, h3, h2, by decide, wf01, by decide, by decide, by decide, by decide, rfl, wo_one (by decide), by decide⟩
    have cu : ∀ u, some u ∈ cH.W → u ≤ 998 := by
      have : ∀ o ∈ cH.W, (match o with | some u => decide (u ≤ 998) | none => true) = true := by decide
      exact fun u hu => of_decide_eq_true (this _ hu)
    dsimp only [gName]
    show tSeq (tIfS _ _ _) _ _ [some (.ref sc), some (.ref t), some (.ref rd), z7, some (.ref hd), none] H8
    refine if_no (fun H'' => TSame t n H8 H'' ∧ Town t n H'') (fun Q' qq => ?_) (fun H9 s9 => ?_)
    · refine ne_rng ["told", "none", "none", "told", "none", "none", "told", "told", "paper", "told"] (fun k => wordOf (kindOf k)) hT8 (by decide) (by decide) w_kinds (by decide +kernel) (words_lst (fun _ _ q => q) (by decide)) (fun _ => by rfl) (fun i H4 hi s4 hT4 Q2 q2 => ?_) (fun H2 s2 hT2 => qq _ ⟨s2, hT2⟩)
      refine ⟨_, rfl, _, rfl, by show 2 ≤ sizeLine; decide, fun p np => ?_⟩
      have s5 := same_new (o := .tup [.int 1, .int 2]) np
      refine ⟨_, rfl, i, .ref rd, .ref p, .ref hd, .int 0, kindOf i, rfl, hi, .inr ⟨rd, p, hd, cH, 1, rfl, rfl, rfl, rfl, case1 (same_t s5 (hT8.t s4 hR8)) (same_t s5 (hT8.t s4 hD8)) (sqt upd_same), by decide, cu, .inl ⟨cH_least, rfl⟩⟩, kind_errN i hi, fun H5 s6 => ?_⟩
      exact q2 H5 (tsame_of (s5.trans s6)) (hT4.same (s5.trans s6))
    obtain ⟨s9, hT9⟩ := s9
    have hR9 := hT8.t s9 hR8
    have hD9 := hT8.t s9 hD8
    clear hT8 hR8 hD8 s9
    -- least, blocked, dearer
    have works : ∀ {H : Hp} {c r : Nat} {Q' : VK}, (∀ p H', Same H H' → SqT K H' p (worksV c r) → Q' (.ref p) H') → tTup (tCons (tC (.int ((c : Nat) : Int))) (tCons (tC (.int ((r : Nat) : Int))) tNil)) [some (.ref sc), some (.ref t), some (.ref rd), z7, some (.ref hd), none] H Q' := fun q' =>
      ⟨by show 2 ≤ sizeLine; decide, fun p np => q' p _ (same_new np) (sqt upd_same)⟩
    refine if_no (fun H'' => Same H9 H'') (fun Q' qq => ?_) (fun H10 s10 => ?_)
    · refine or_no (fun H'' => Same H9 H'') (fun Q'' q'' => ?_) (fun Ha sa => ?_)
      · refine ⟨_, rfl, works (c := 1) (r := 2) fun p H' s' hp => ⟨_, rfl, ?_⟩⟩
        refine ⟨rd, p, hd, cH, 1, rfl, case1 (same_t s' hR9) (same_t s' hD9) hp, by decide, fun H2 s2 => ?_⟩
        rw [cH_least]
        exact ⟨rfl, false, rfl, q'' _ (s'.trans s2)⟩
      refine or_no (fun H'' => Same H9 H'') (fun Q'' q'' => ?_) (fun Hb sb => ?_)
      · refine ⟨_, rfl, works (c := 1) (r := 2) fun p H' s' hp => ⟨_, rfl, ?_⟩⟩
        have s9' := sa.trans s'
        refine ⟨rd, p, hd, cH, 1, rfl, case1 (same_t s9' hR9) (same_t s9' hD9) hp, by decide, fun l H2 s2 hl => ?_⟩
        rw [cH_blocked] at hl
        refine ⟨by show 1 ≤ sizeLine; decide, fun l2 n2 => ?_⟩
        have s3 := same_new (o := .lst [V.int 2]) n2
        exact ne_same (.lst (sql (s3 _ _ hl)) (.cons (.int 2) .nil)) (.lst (sql upd_same) (.cons (.int 2) .nil)) (by decide +kernel) ⟨false, rfl, q'' _ (s9'.trans (s2.trans s3))⟩
      · refine ⟨_, rfl, works (c := 1) (r := 2) fun p H' s' hp => ⟨_, rfl, ?_⟩⟩
        have s9' := sb.trans s'
        refine ⟨rd, p, hd, cH, 1, rfl, case1 (same_t s9' hR9) (same_t s9' hD9) hp, by decide, cu, fun l H2 s2 hl => ?_⟩
        rw [cH_dear] at hl
        refine ⟨by show 1 ≤ sizeLine; decide, fun l1 n1 => ⟨l1, 3, _, rfl, rfl, upd_same, by decide, by decide, by show 1 * 3 ≤ sizeLine; decide, fun l2 n2 => ?_⟩⟩
        have s3 := (same_new (o := .lst [V.non]) n1).trans (same_new (o := .lst (List.replicate (Int.toNat 3) [V.non]).flatten) n2)
        exact ne_same (.lst (sql (s3 _ _ hl)) (.cons .non (.cons .non (.cons .non .nil)))) (.lst (sql upd_same) (.cons .non (.cons .non (.cons .non .nil)))) (by decide +kernel) ⟨false, rfl, qq _ (s9'.trans (s2.trans s3))⟩
    have hT10 := hT9.same s10
    have hR10 := same_t s10 hR9
    have hD10 := same_t s10 hD9
    clear hT9 hR9 hD9 s10
    -- far, leaving
    refine if_no (fun H'' => Same H10 H'') (fun Q' qq => ?_) (fun H11 s11 => ?_)
    · refine or_no (fun H'' => Same H10 H'') (fun Q'' q'' => ?_) (fun Ha sa => ?_)
      · refine ⟨_, rfl, works (c := 1) (r := 3) fun p H' s' hp => ⟨by show 3 ≤ sizeLine; decide, fun p2 np2 => ?_⟩⟩
        have s2 := same_new (o := .tup [.non, .non, .int 900]) np2
        refine ⟨5, .ref rd, .ref p, .ref p2, .int 0, some "BadWants", rfl, by decide, .inr ⟨rd, p, p2, cL, 1, rfl, rfl, rfl, rfl, ⟨same_t s2 (same_t s' hR10), same_t s2 hp, sqt upd_same, by decide, wf01, by decide, by decide, by decide, by decide, rfl, wo_one (by decide), by decide⟩, by decide, ?_, .inr ⟨rfl, rfl, cL_least⟩⟩, (fun x hx => by cases hx; exact eN), fun H5 s5 => ?_⟩
        · have : ∀ o ∈ cL.W, (match o with | some u => decide (u ≤ 998) | none => true) = true := by decide
          exact fun u hu => of_decide_eq_true (this _ hu)
        rw [w_wants]
        exact ⟨rfl, false, rfl, q'' _ (s'.trans (s2.trans s5))⟩
      · refine ⟨_, rfl, works (c := 2) (r := 2) fun p H' s' hp => ⟨_, rfl, ?_⟩⟩
        have s9' := sa.trans s'
        refine ⟨rd, p, hd, cH, 2, rfl, ⟨same_t s9' hR10, hp, same_t s9' hD10, by decide, wf01, by decide, by decide, by decide, by decide, rfl, wo_one (by decide), by decide⟩, by decide, fun l H2 s2 nl hl => ?_⟩
        rw [cH_leaving] at hl
        refine ⟨by show 3 ≤ sizeLine; decide, fun l2 n2 => ?_⟩
        have s3 := same_new (o := .lst [V.non, V.non, V.int 4]) n2
        exact ne_same (.lst (sql (s3 _ _ hl)) (.cons .non (.cons .non (.cons (.int 4) .nil)))) (.lst (sql upd_same) (.cons .non (.cons .non (.cons (.int 4) .nil)))) (by decide +kernel) ⟨false, rfl, qq _ (s9'.trans (s2.trans s3))⟩
    have hT11 := hT10.same s11
    have hR11 := same_t s11 hR10
    clear hT10 hR10 hD10 s11
    -- the last
    refine and_yes (fun H'' => TSame t n H11 H'' ∧ Town t n H'') (fun Q'' q'' => ?_) (fun Ha sa => ?_)
    · refine eq_01 (List.replicate 2 "land") (fun _ => "land") hT11 (by decide +kernel) (by decide +kernel) (words_rep (by decide) (by decide) rfl) (fun _ => by rfl) (fun i H4 hi s4 hT4 Q2 q2 => ?_) (fun H2 s2 hT2 => q'' _ ⟨s2, hT2⟩)
      exact ⟨_, rfl, _, rfl, i, .ref rd, .int 3, rfl, .inr ⟨rd, [0, 1], rfl, hT11.t s4 hR11, by decide, wf01, .inr (.inl ⟨_, rfl⟩), by decide +kernel⟩, fun H5 s5 => q2 H5 (tsame_of s5) (hT4.same s5)⟩
    have hRa := hT11.t sa.1 hR11
    refine and_yes (fun H'' => Same Ha H'') (fun Q'' q'' => ?_) (fun Hb sb => ?_)
    · refine ⟨_, rfl, rd, [0, 1], 2, rfl, hRa, by decide, wf01, by decide, fun l H2 s2 nl hl => ?_⟩
      rw [way01] at hl
      refine ⟨by show 3 ≤ sizeLine; decide, fun l2 n2 => ?_⟩
      have s3 := same_new (o := .lst [V.int 0, V.int 1, V.int 2]) n2
      exact eq_same (.lst (sql (s3 _ _ hl)) (.cons (.int 0) (.cons (.int 1) (.cons (.int 2) .nil)))) (.lst (sql upd_same) (.cons (.int 0) (.cons (.int 1) (.cons (.int 2) .nil)))) (by decide +kernel) (q'' _ (s2.trans s3))
    · refine ⟨_, rfl, rd, [0, 1], 1, rfl, same_t sb hRa, by decide, wf01, by decide, fun l H2 s2 nl hl => ?_⟩
      rw [part01] at hl
      refine ⟨by show 2 ≤ sizeLine; decide, fun l2 n2 => ?_⟩
      have s3 := same_new (o := .lst [V.int 1, V.int 2]) n2
      exact eq_same (.lst (sql (s3 _ _ hl)) (.cons (.int 1) (.cons (.int 2) .nil))) (.lst (sql upd_same) (.cons (.int 1) (.cons (.int 2) .nil))) (by decide +kernel) (q _)
end
end Oa
namespace Oa
open PySem PySem.Spec PyProof.Rows L2
def allB (K : PySem.W.Frag) : Bool := errsB K && planB K
def d_BadPlan___init__ : He.DefD := ⟨("BadPlan", some "__init__"), "__init__", "BadPlan.__init__", defArgs (inClass c_BadPlan 0), defBody (inClass c_BadPlan 0), defScope (inClass c_BadPlan 0), [], []⟩
def d_is_whole : He.DefD := ⟨("is_whole", none), "is_whole", "is_whole", defArgs s_is_whole, defBody s_is_whole, defScope s_is_whole, [], []⟩
def d_is_land : He.DefD := ⟨("is_land", none), "is_land", "is_land", defArgs s_is_land, defBody s_is_land, defScope s_is_land, [], []⟩
def d_is_works : He.DefD := ⟨("is_works", none), "is_works", "is_works", defArgs s_is_works, defBody s_is_works, defScope s_is_works, [], []⟩
def d_is_wants : He.DefD := ⟨("is_wants", none), "is_wants", "is_wants", defArgs s_is_wants, defBody s_is_wants, defScope s_is_wants, [], []⟩
def d_look_land : He.DefD := ⟨("look_land", none), "look_land", "look_land", defArgs s_look_land, defBody s_look_land, defScope s_look_land, [], []⟩
def d_look_place : He.DefD := ⟨("look_place", none), "look_place", "look_place", defArgs s_look_place, defBody s_look_place, defScope s_look_place, [], []⟩
def d_look_works : He.DefD := ⟨("look_works", none), "look_works", "look_works", defArgs s_look_works, defBody s_look_works, defScope s_look_works, [], []⟩
def d_look_case : He.DefD := ⟨("look_case", none), "look_case", "look_case", defArgs s_look_case, defBody s_look_case, defScope s_look_case, [], []⟩
def d_beyond : He.DefD := ⟨("beyond", none), "beyond", "beyond", defArgs s_beyond, defBody s_beyond, defScope s_beyond, [], []⟩
def d_way_to : He.DefD := ⟨("way_to", none), "way_to", "way_to", defArgs s_way_to, defBody s_way_to, defScope s_way_to, [], []⟩
def d_part_of : He.DefD := ⟨("part_of", none), "part_of", "part_of", defArgs s_part_of, defBody s_part_of, defScope s_part_of, [], []⟩
def d_neighbours : He.DefD := ⟨("neighbours", none), "neighbours", "neighbours", defArgs s_neighbours, defBody s_neighbours, defScope s_neighbours, [], []⟩
def d_going_out : He.DefD := ⟨("going_out", none), "going_out", "going_out", defArgs s_going_out, defBody s_going_out, defScope s_going_out, [], []⟩
def d_best_parting : He.DefD := ⟨("best_parting", none), "best_parting", "best_parting", defArgs s_best_parting, defBody s_best_parting, defScope s_best_parting, [], []⟩
def d_own_need : He.DefD := ⟨("own_need", none), "own_need", "own_need", defArgs s_own_need, defBody s_own_need, defScope s_own_need, [], []⟩
def d_is_called : He.DefD := ⟨("is_called", none), "is_called", "is_called", defArgs s_is_called, defBody s_is_called, defScope s_is_called, [], []⟩
def d_tables_of : He.DefD := ⟨("tables_of", none), "tables_of", "tables_of", defArgs s_tables_of, defBody s_tables_of, defScope s_tables_of, [], []⟩
def d_taken_for : He.DefD := ⟨("taken_for", none), "taken_for", "taken_for", defArgs s_taken_for, defBody s_taken_for, defScope s_taken_for, [], []⟩
def d_best_left : He.DefD := ⟨("best_left", none), "best_left", "best_left", defArgs s_best_left, defBody s_best_left, defScope s_best_left, [], []⟩
def d_least_of : He.DefD := ⟨("least_of", none), "least_of", "least_of", defArgs s_least_of, defBody s_least_of, defScope s_least_of, [], []⟩
def d_least : He.DefD := ⟨("least", none), "least", "least", defArgs s_least, defBody s_least, defScope s_least, [], [("left", .int 0)]⟩
def d_told_way : He.DefD := ⟨("told_way", none), "told_way", "told_way", defArgs s_told_way, defBody s_told_way, defScope s_told_way, [], []⟩
def d_left_beyond : He.DefD := ⟨("left_beyond", none), "left_beyond", "left_beyond", defArgs s_left_beyond, defBody s_left_beyond, defScope s_left_beyond, [], [("left", .int 0)]⟩
def d_crossings : He.DefD := ⟨("crossings", none), "crossings", "crossings", defArgs s_crossings, defBody s_crossings, defScope s_crossings, [], [("left", .int 0)]⟩
def d_blocked : He.DefD := ⟨("blocked", none), "blocked", "blocked", defArgs s_blocked, defBody s_blocked, defScope s_blocked, [], [("left", .int 0)]⟩
def d_price_of_room : He.DefD := ⟨("price_of_room", none), "price_of_room", "price_of_room", defArgs s_price_of_room, defBody s_price_of_room, defScope s_price_of_room, [], [("left", .int 0)]⟩
def d_price_of_leaving : He.DefD := ⟨("price_of_leaving", none), "price_of_leaving", "price_of_leaving", defArgs s_price_of_leaving, defBody s_price_of_leaving, defScope s_price_of_leaving, [], []⟩
def d_Standing___init__ : He.DefD := ⟨("Standing", some "__init__"), "__init__", "Standing.__init__", defArgs (inClass c_Standing 0), defBody (inClass c_Standing 0), defScope (inClass c_Standing 0), [], []⟩
def d_Standing_do : He.DefD := ⟨("Standing", some "do"), "do", "Standing.do", defArgs (inClass c_Standing 1), defBody (inClass c_Standing 1), defScope (inClass c_Standing 1), [], []⟩
def d_Standing_go : He.DefD := ⟨("Standing", some "go"), "go", "Standing.go", defArgs (inClass c_Standing 2), defBody (inClass c_Standing 2), defScope (inClass c_Standing 2), [], []⟩
def d_Standing_take : He.DefD := ⟨("Standing", some "take"), "take", "Standing.take", defArgs (inClass c_Standing 3), defBody (inClass c_Standing 3), defScope (inClass c_Standing 3), [], []⟩
def d_Standing_lay : He.DefD := ⟨("Standing", some "lay"), "lay", "Standing.lay", defArgs (inClass c_Standing 4), defBody (inClass c_Standing 4), defScope (inClass c_Standing 4), [], []⟩
def d_done : He.DefD := ⟨("done", none), "done", "done", defArgs s_done, defBody s_done, defScope s_done, [], []⟩
def d_meets : He.DefD := ⟨("meets", none), "meets", "meets", defArgs s_meets, defBody s_meets, defScope s_meets, [], []⟩
def d_is_right : He.DefD := ⟨("is_right", none), "is_right", "is_right", defArgs s_is_right, defBody s_is_right, defScope s_is_right, [], [("left", .int 0)]⟩
def d_Maker___init__ : He.DefD := ⟨("Maker", some "__init__"), "__init__", "Maker.__init__", defArgs (inClass c_Maker 0), defBody (inClass c_Maker 0), defScope (inClass c_Maker 0), [], []⟩
def d_Maker_add : He.DefD := ⟨("Maker", some "add"), "add", "Maker.add", defArgs (inClass c_Maker 1), defBody (inClass c_Maker 1), defScope (inClass c_Maker 1), [], []⟩
def d_Maker_bring : He.DefD := ⟨("Maker", some "bring"), "bring", "Maker.bring", defArgs (inClass c_Maker 2), defBody (inClass c_Maker 2), defScope (inClass c_Maker 2), [], []⟩
def d_Maker_serve : He.DefD := ⟨("Maker", some "serve"), "serve", "Maker.serve", defArgs (inClass c_Maker 3), defBody (inClass c_Maker 3), defScope (inClass c_Maker 3), [], []⟩
def d_made : He.DefD := ⟨("made", none), "made", "made", defArgs s_made, defBody s_made, defScope s_made, [], []⟩
def d_plan_of : He.DefD := ⟨("plan_of", none), "plan_of", "plan_of", defArgs s_plan_of, defBody s_plan_of, defScope s_plan_of, [], [("left", .int 0)]⟩
def d_paper : He.DefD := ⟨("paper", none), "paper", "paper", defArgs s_paper, defBody s_paper, defScope s_paper, [], [("left", .int 0)]⟩
def d_is_paper : He.DefD := ⟨("is_paper", none), "is_paper", "is_paper", defArgs s_is_paper, defBody s_is_paper, defScope s_is_paper, [], []⟩
def d_least_sum : He.DefD := ⟨("least_sum", none), "least_sum", "least_sum", defArgs s_least_sum, defBody s_least_sum, defScope s_least_sum, [], []⟩
def d_no_more : He.DefD := ⟨("no_more", none), "no_more", "no_more", defArgs s_no_more, defBody s_no_more, defScope s_no_more, [], []⟩
def d_bound : He.DefD := ⟨("bound", none), "bound", "bound", defArgs s_bound, defBody s_bound, defScope s_bound, [], [("left", .int 0)]⟩
def d_dearer : He.DefD := ⟨("dearer", none), "dearer", "dearer", defArgs s_dearer, defBody s_dearer, defScope s_dearer, [], [("left", .int 0)]⟩
def d__law_town : He.DefD := ⟨("_law_town", none), "_law_town", "_law_town", defArgs s__law_town, defBody s__law_town, defScope s__law_town, [], []⟩
def d__law_draw : He.DefD := ⟨("_law_draw", none), "_law_draw", "_law_draw", defArgs s__law_draw, defBody s__law_draw, defScope s__law_draw, [], []⟩
def d__law_refusal : He.DefD := ⟨("_law_refusal", none), "_law_refusal", "_law_refusal", defArgs s__law_refusal, defBody s__law_refusal, defScope s__law_refusal, [], []⟩
def d__law_does : He.DefD := ⟨("_law_does", none), "_law_does", "_law_does", defArgs s__law_does, defBody s__law_does, defScope s__law_does, [], []⟩
def d__law_asked : He.DefD := ⟨("_law_asked", none), "_law_asked", "_law_asked", defArgs s__law_asked, defBody s__law_asked, defScope s__law_asked, [], []⟩
def d__law_lone_asked : He.DefD := ⟨("_law_lone_asked", none), "_law_lone_asked", "_law_lone_asked", defArgs s__law_lone_asked, defBody s__law_lone_asked, defScope s__law_lone_asked, [], []⟩
def d__law_kinds : He.DefD := ⟨("_law_kinds", none), "_law_kinds", "_law_kinds", defArgs s__law_kinds, defBody s__law_kinds, defScope s__law_kinds, [], []⟩
def d_law : He.DefD := ⟨("law", none), "law", "law", defArgs s_law, defBody s_law, defScope s_law, [], []⟩
def hfn : List He.DefD := [d_BadPlan___init__, d_is_whole, d_is_land, d_is_works, d_is_wants, d_look_land, d_look_place, d_look_works, d_look_case, d_beyond, d_way_to, d_part_of, d_neighbours, d_going_out, d_best_parting, d_own_need, d_is_called, d_tables_of, d_taken_for, d_best_left, d_least_of, d_least, d_told_way, d_left_beyond, d_crossings, d_blocked, d_price_of_room, d_price_of_leaving, d_Standing___init__, d_Standing_do, d_Standing_go, d_Standing_take, d_Standing_lay, d_done, d_meets, d_is_right, d_Maker___init__, d_Maker_add, d_Maker_bring, d_Maker_serve, d_made, d_plan_of, d_paper, d_is_paper, d_least_sum, d_no_more, d_bound, d_dearer, d__law_town, d__law_draw, d__law_refusal, d__law_does, d__law_asked, d__law_lone_asked, d__law_kinds, d_law]
def hfa : List He.Fa := [.glo "OatError", .glo "BadLand", .glo "BadWorks", .glo "BadWants", .glo "BadPlan", .glo "BadPaper", .glo "BadText", .glo "NoneSuch", .glo "is_whole", .glo "is_land", .glo "is_works", .glo "is_wants", .glo "look_land", .glo "look_place", .glo "look_works", .glo "look_case", .glo "beyond", .glo "way_to", .glo "part_of", .glo "neighbours", .glo "going_out", .glo "best_parting", .glo "own_need", .glo "is_called", .glo "tables_of", .glo "taken_for", .glo "best_left", .glo "least_of", .glo "least", .glo "told_way", .glo "left_beyond", .glo "crossings", .glo "blocked", .glo "price_of_room", .glo "price_of_leaving", .glo "Standing", .glo "done", .glo "meets", .glo "is_right", .glo "Maker", .glo "made", .glo "plan_of", .glo "paper", .glo "is_paper", .glo "least_sum", .glo "no_more", .glo "bound", .glo "dearer", .glo "_law_town", .glo "_law_draw", .glo "_law_refusal", .glo "_law_does", .glo "_law_asked", .glo "_law_lone_asked", .glo "_law_kinds", .glo "law", .free "ValueError", .free "all", .free "bool", .free "dict", .free "enumerate", .free "int", .free "isinstance", .free "len", .free "list", .free "max", .free "min", .free "range", .free "sorted", .free "str", .free "tuple", .int "MOST_PLACES" 30, .int "MOST_CARTS" 6, .int "MOST_ROOM" 20, .int "MOST_WANT" 999, .int "MOST_DEEDS" 20000, .int "MOST_MADE" 1500, .int "MOST_NUMBER" 1000000000000000000000000000000, .cls "Standing", .mkr "Standing", .noat "Standing" "land", .noat "Standing" "works", .noat "Standing" "spots", .noat "Standing" "loads", .noat "Standing" "stores", .noat "Standing" "taken", .noat "Standing" "called", .noat "Standing" "outs", .noat "Standing" "backs", .meth "Standing" "do", .meth "Standing" "go", .meth "Standing" "take", .meth "Standing" "lay", .cls "Maker", .mkr "Maker", .noat "Maker" "land", .noat "Maker" "works", .noat "Maker" "wants", .noat "Maker" "told", .noat "Maker" "tables", .noat "Maker" "deeds", .meth "Maker" "add", .meth "Maker" "bring", .meth "Maker" "serve"]
def hloose : List Str := (["OatError", "BadLand", "BadWorks", "BadWants", "BadPlan", "BadPaper", "BadText", "NoneSuch", "is_whole", "MOST_PLACES", "MOST_CARTS", "MOST_ROOM", "MOST_WANT", "is_land", "is_works", "is_wants", "look_land", "look_place", "look_works", "look_case", "beyond", "way_to", "part_of", "neighbours", "going_out", "best_parting", "own_need", "is_called", "tables_of", "taken_for"] : List Str) ++ (["best_left", "least_of", "least", "told_way", "left_beyond", "crossings", "blocked", "price_of_room", "price_of_leaving", "MOST_DEEDS", "Standing", "done", "meets", "is_right", "MOST_MADE", "Maker", "made", "plan_of", "MOST_NUMBER", "paper", "is_paper", "least_sum", "no_more", "bound", "dearer", "_law_town", "_law_draw", "_law_refusal", "_law_does", "_law_asked"] : List Str) ++ (["_law_lone_asked", "_law_kinds"] : List Str)
abbrev rowR : PySem.W.OpenRow := PySem.W.OpenLaw.row PySem.Challenge.rw_oatroads_k12_lands_refused
abbrev hkR : PySem.W.Hook := hookY 5 hfa hfn allB
def obR (s : PySem.W.SharedT) : AlY := obsY 5 hfa hfn allB (HandSHeadRun.getT s)
theorem obR_eq (s : PySem.W.SharedT) : obR s = hkR.obs s.abs := obsY_eq (HandSHeadRun.getT_eq s)
theorem runR (w : World) : HandSHeadRun.RunEq rowR (PySem.W.view rowR.prog [70]) hkR obR 6000 hloose w := by
  intro os
  kernel_rfl
theorem txtR {K : PySem.W.Frag} {h : Heap} {mg : Str → Option Value} (X : K.In h) (G : h.Ns mainGlobals mg) (c : He.SaysD hfa hfn K) : Txt K mg where
  d_is_whole := by obtain ⟨fd, F⟩ := c.def_ 1 (d := d_is_whole) rfl; exact ⟨_, fd, He.glo_ok X G (c.fact 8 (f := .glo "is_whole") rfl), F⟩
  d_is_land := by obtain ⟨fd, F⟩ := c.def_ 2 (d := d_is_land) rfl; exact ⟨_, fd, He.glo_ok X G (c.fact 9 (f := .glo "is_land") rfl), F⟩
  d_is_works := by obtain ⟨fd, F⟩ := c.def_ 3 (d := d_is_works) rfl; exact ⟨_, fd, He.glo_ok X G (c.fact 10 (f := .glo "is_works") rfl), F⟩
  d_is_wants := by obtain ⟨fd, F⟩ := c.def_ 4 (d := d_is_wants) rfl; exact ⟨_, fd, He.glo_ok X G (c.fact 11 (f := .glo "is_wants") rfl), F⟩
  d_look_land := by obtain ⟨fd, F⟩ := c.def_ 5 (d := d_look_land) rfl; exact ⟨_, fd, He.glo_ok X G (c.fact 12 (f := .glo "look_land") rfl), F⟩
  d_look_place := by obtain ⟨fd, F⟩ := c.def_ 6 (d := d_look_place) rfl; exact ⟨_, fd, He.glo_ok X G (c.fact 13 (f := .glo "look_place") rfl), F⟩
  d_look_works := by obtain ⟨fd, F⟩ := c.def_ 7 (d := d_look_works) rfl; exact ⟨_, fd, He.glo_ok X G (c.fact 14 (f := .glo "look_works") rfl), F⟩
  d_look_case := by obtain ⟨fd, F⟩ := c.def_ 8 (d := d_look_case) rfl; exact ⟨_, fd, He.glo_ok X G (c.fact 15 (f := .glo "look_case") rfl), F⟩
  d_beyond := by obtain ⟨fd, F⟩ := c.def_ 9 (d := d_beyond) rfl; exact ⟨_, fd, He.glo_ok X G (c.fact 16 (f := .glo "beyond") rfl), F⟩
  d_way_to := by obtain ⟨fd, F⟩ := c.def_ 10 (d := d_way_to) rfl; exact ⟨_, fd, He.glo_ok X G (c.fact 17 (f := .glo "way_to") rfl), F⟩
  d_part_of := by obtain ⟨fd, F⟩ := c.def_ 11 (d := d_part_of) rfl; exact ⟨_, fd, He.glo_ok X G (c.fact 18 (f := .glo "part_of") rfl), F⟩
  d_neighbours := by obtain ⟨fd, F⟩ := c.def_ 12 (d := d_neighbours) rfl; exact ⟨_, fd, He.glo_ok X G (c.fact 19 (f := .glo "neighbours") rfl), F⟩
  d_going_out := by obtain ⟨fd, F⟩ := c.def_ 13 (d := d_going_out) rfl; exact ⟨_, fd, He.glo_ok X G (c.fact 20 (f := .glo "going_out") rfl), F⟩
  d_best_parting := by obtain ⟨fd, F⟩ := c.def_ 14 (d := d_best_parting) rfl; exact ⟨_, fd, He.glo_ok X G (c.fact 21 (f := .glo "best_parting") rfl), F⟩
  d_own_need := by obtain ⟨fd, F⟩ := c.def_ 15 (d := d_own_need) rfl; exact ⟨_, fd, He.glo_ok X G (c.fact 22 (f := .glo "own_need") rfl), F⟩
  d_is_called := by obtain ⟨fd, F⟩ := c.def_ 16 (d := d_is_called) rfl; exact ⟨_, fd, He.glo_ok X G (c.fact 23 (f := .glo "is_called") rfl), F⟩
  d_tables_of := by obtain ⟨fd, F⟩ := c.def_ 17 (d := d_tables_of) rfl; exact ⟨_, fd, He.glo_ok X G (c.fact 24 (f := .glo "tables_of") rfl), F⟩
  d_taken_for := by obtain ⟨fd, F⟩ := c.def_ 18 (d := d_taken_for) rfl; exact ⟨_, fd, He.glo_ok X G (c.fact 25 (f := .glo "taken_for") rfl), F⟩
  d_best_left := by obtain ⟨fd, F⟩ := c.def_ 19 (d := d_best_left) rfl; exact ⟨_, fd, He.glo_ok X G (c.fact 26 (f := .glo "best_left") rfl), F⟩
  d_least_of := by obtain ⟨fd, F⟩ := c.def_ 20 (d := d_least_of) rfl; exact ⟨_, fd, He.glo_ok X G (c.fact 27 (f := .glo "least_of") rfl), F⟩
  d_least := by obtain ⟨fd, F⟩ := c.def_ 21 (d := d_least) rfl; exact ⟨_, fd, He.glo_ok X G (c.fact 28 (f := .glo "least") rfl), F⟩
  d_told_way := by obtain ⟨fd, F⟩ := c.def_ 22 (d := d_told_way) rfl; exact ⟨_, fd, He.glo_ok X G (c.fact 29 (f := .glo "told_way") rfl), F⟩
  d_left_beyond := by obtain ⟨fd, F⟩ := c.def_ 23 (d := d_left_beyond) rfl; exact ⟨_, fd, He.glo_ok X G (c.fact 30 (f := .glo "left_beyond") rfl), F⟩
  d_crossings := by obtain ⟨fd, F⟩ := c.def_ 24 (d := d_crossings) rfl; exact ⟨_, fd, He.glo_ok X G (c.fact 31 (f := .glo "crossings") rfl), F⟩
  d_blocked := by obtain ⟨fd, F⟩ := c.def_ 25 (d := d_blocked) rfl; exact ⟨_, fd, He.glo_ok X G (c.fact 32 (f := .glo "blocked") rfl), F⟩
  d_price_of_room := by obtain ⟨fd, F⟩ := c.def_ 26 (d := d_price_of_room) rfl; exact ⟨_, fd, He.glo_ok X G (c.fact 33 (f := .glo "price_of_room") rfl), F⟩
  d_price_of_leaving := by obtain ⟨fd, F⟩ := c.def_ 27 (d := d_price_of_leaving) rfl; exact ⟨_, fd, He.glo_ok X G (c.fact 34 (f := .glo "price_of_leaving") rfl), F⟩
  d_done := by obtain ⟨fd, F⟩ := c.def_ 33 (d := d_done) rfl; exact ⟨_, fd, He.glo_ok X G (c.fact 36 (f := .glo "done") rfl), F⟩
  d_meets := by obtain ⟨fd, F⟩ := c.def_ 34 (d := d_meets) rfl; exact ⟨_, fd, He.glo_ok X G (c.fact 37 (f := .glo "meets") rfl), F⟩
  d_is_right := by obtain ⟨fd, F⟩ := c.def_ 35 (d := d_is_right) rfl; exact ⟨_, fd, He.glo_ok X G (c.fact 38 (f := .glo "is_right") rfl), F⟩
  d_made := by obtain ⟨fd, F⟩ := c.def_ 40 (d := d_made) rfl; exact ⟨_, fd, He.glo_ok X G (c.fact 40 (f := .glo "made") rfl), F⟩
  d_plan_of := by obtain ⟨fd, F⟩ := c.def_ 41 (d := d_plan_of) rfl; exact ⟨_, fd, He.glo_ok X G (c.fact 41 (f := .glo "plan_of") rfl), F⟩
  d_paper := by obtain ⟨fd, F⟩ := c.def_ 42 (d := d_paper) rfl; exact ⟨_, fd, He.glo_ok X G (c.fact 42 (f := .glo "paper") rfl), F⟩
  d_is_paper := by obtain ⟨fd, F⟩ := c.def_ 43 (d := d_is_paper) rfl; exact ⟨_, fd, He.glo_ok X G (c.fact 43 (f := .glo "is_paper") rfl), F⟩
  d_least_sum := by obtain ⟨fd, F⟩ := c.def_ 44 (d := d_least_sum) rfl; exact ⟨_, fd, He.glo_ok X G (c.fact 44 (f := .glo "least_sum") rfl), F⟩
  d_no_more := by obtain ⟨fd, F⟩ := c.def_ 45 (d := d_no_more) rfl; exact ⟨_, fd, He.glo_ok X G (c.fact 45 (f := .glo "no_more") rfl), F⟩
  d_bound := by obtain ⟨fd, F⟩ := c.def_ 46 (d := d_bound) rfl; exact ⟨_, fd, He.glo_ok X G (c.fact 46 (f := .glo "bound") rfl), F⟩
  d_dearer := by obtain ⟨fd, F⟩ := c.def_ 47 (d := d_dearer) rfl; exact ⟨_, fd, He.glo_ok X G (c.fact 47 (f := .glo "dearer") rfl), F⟩
  d__law_town := by obtain ⟨fd, F⟩ := c.def_ 48 (d := d__law_town) rfl; exact ⟨_, fd, He.glo_ok X G (c.fact 48 (f := .glo "_law_town") rfl), F⟩
  d__law_draw := by obtain ⟨fd, F⟩ := c.def_ 49 (d := d__law_draw) rfl; exact ⟨_, fd, He.glo_ok X G (c.fact 49 (f := .glo "_law_draw") rfl), F⟩
  d__law_refusal := by obtain ⟨fd, F⟩ := c.def_ 50 (d := d__law_refusal) rfl; exact ⟨_, fd, He.glo_ok X G (c.fact 50 (f := .glo "_law_refusal") rfl), F⟩
  d__law_does := by obtain ⟨fd, F⟩ := c.def_ 51 (d := d__law_does) rfl; exact ⟨_, fd, He.glo_ok X G (c.fact 51 (f := .glo "_law_does") rfl), F⟩
  d__law_asked := by obtain ⟨fd, F⟩ := c.def_ 52 (d := d__law_asked) rfl; exact ⟨_, fd, He.glo_ok X G (c.fact 52 (f := .glo "_law_asked") rfl), F⟩
  d__law_lone_asked := by obtain ⟨fd, F⟩ := c.def_ 53 (d := d__law_lone_asked) rfl; exact ⟨_, fd, He.glo_ok X G (c.fact 53 (f := .glo "_law_lone_asked") rfl), F⟩
  d__law_kinds := by obtain ⟨fd, F⟩ := c.def_ 54 (d := d__law_kinds) rfl; exact ⟨_, fd, He.glo_ok X G (c.fact 54 (f := .glo "_law_kinds") rfl), F⟩
  d_law := by obtain ⟨fd, F⟩ := c.def_ 55 (d := d_law) rfl; exact ⟨_, fd, He.glo_ok X G (c.fact 55 (f := .glo "law") rfl), F⟩
  g_Standing := He.glo_ok X G (c.fact 35 (f := .glo "Standing") rfl)
  g_Maker := He.glo_ok X G (c.fact 39 (f := .glo "Maker") rfl)
  cl_Standing := He.cls_ok (c.fact 78 (f := .cls "Standing") rfl)
  mk_Standing := He.mkr_ok (c.fact 79 (f := .mkr "Standing") rfl)
  na_Standing_land := He.noat_ok (c.fact 80 (f := .noat "Standing" "land") rfl)
  na_Standing_works := He.noat_ok (c.fact 81 (f := .noat "Standing" "works") rfl)
  na_Standing_spots := He.noat_ok (c.fact 82 (f := .noat "Standing" "spots") rfl)
  na_Standing_loads := He.noat_ok (c.fact 83 (f := .noat "Standing" "loads") rfl)
  na_Standing_stores := He.noat_ok (c.fact 84 (f := .noat "Standing" "stores") rfl)
  na_Standing_taken := He.noat_ok (c.fact 85 (f := .noat "Standing" "taken") rfl)
  na_Standing_called := He.noat_ok (c.fact 86 (f := .noat "Standing" "called") rfl)
  na_Standing_outs := He.noat_ok (c.fact 87 (f := .noat "Standing" "outs") rfl)
  na_Standing_backs := He.noat_ok (c.fact 88 (f := .noat "Standing" "backs") rfl)
  me_Standing_do := He.meth_ok (c.fact 89 (f := .meth "Standing" "do") rfl)
  me_Standing_go := He.meth_ok (c.fact 90 (f := .meth "Standing" "go") rfl)
  me_Standing_take := He.meth_ok (c.fact 91 (f := .meth "Standing" "take") rfl)
  me_Standing_lay := He.meth_ok (c.fact 92 (f := .meth "Standing" "lay") rfl)
  cl_Maker := He.cls_ok (c.fact 93 (f := .cls "Maker") rfl)
  mk_Maker := He.mkr_ok (c.fact 94 (f := .mkr "Maker") rfl)
  na_Maker_land := He.noat_ok (c.fact 95 (f := .noat "Maker" "land") rfl)
  na_Maker_works := He.noat_ok (c.fact 96 (f := .noat "Maker" "works") rfl)
  na_Maker_wants := He.noat_ok (c.fact 97 (f := .noat "Maker" "wants") rfl)
  na_Maker_told := He.noat_ok (c.fact 98 (f := .noat "Maker" "told") rfl)
  na_Maker_tables := He.noat_ok (c.fact 99 (f := .noat "Maker" "tables") rfl)
  na_Maker_deeds := He.noat_ok (c.fact 100 (f := .noat "Maker" "deeds") rfl)
  me_Maker_add := He.meth_ok (c.fact 101 (f := .meth "Maker" "add") rfl)
  me_Maker_bring := He.meth_ok (c.fact 102 (f := .meth "Maker" "bring") rfl)
  me_Maker_serve := He.meth_ok (c.fact 103 (f := .meth "Maker" "serve") rfl)
  d_BadPlan___init__ := c.def_ 0 (d := d_BadPlan___init__) rfl
  d_Standing___init__ := c.def_ 28 (d := d_Standing___init__) rfl
  d_Standing_do := c.def_ 29 (d := d_Standing_do) rfl
  d_Standing_go := c.def_ 30 (d := d_Standing_go) rfl
  d_Standing_take := c.def_ 31 (d := d_Standing_take) rfl
  d_Standing_lay := c.def_ 32 (d := d_Standing_lay) rfl
  d_Maker___init__ := c.def_ 36 (d := d_Maker___init__) rfl
  d_Maker_add := c.def_ 37 (d := d_Maker_add) rfl
  d_Maker_bring := c.def_ 38 (d := d_Maker_bring) rfl
  d_Maker_serve := c.def_ 39 (d := d_Maker_serve) rfl
  b_ValueError := He.free_ok X G (c.fact 56 (f := .free "ValueError") rfl)
  b_all := He.free_ok X G (c.fact 57 (f := .free "all") rfl)
  b_bool := He.free_ok X G (c.fact 58 (f := .free "bool") rfl)
  b_dict := He.free_ok X G (c.fact 59 (f := .free "dict") rfl)
  b_enumerate := He.free_ok X G (c.fact 60 (f := .free "enumerate") rfl)
  b_int := He.free_ok X G (c.fact 61 (f := .free "int") rfl)
  b_isinstance := He.free_ok X G (c.fact 62 (f := .free "isinstance") rfl)
  b_len := He.free_ok X G (c.fact 63 (f := .free "len") rfl)
  b_list := He.free_ok X G (c.fact 64 (f := .free "list") rfl)
  b_max := He.free_ok X G (c.fact 65 (f := .free "max") rfl)
  b_min := He.free_ok X G (c.fact 66 (f := .free "min") rfl)
  b_range := He.free_ok X G (c.fact 67 (f := .free "range") rfl)
  b_sorted := He.free_ok X G (c.fact 68 (f := .free "sorted") rfl)
  b_str := He.free_ok X G (c.fact 69 (f := .free "str") rfl)
  b_tuple := He.free_ok X G (c.fact 70 (f := .free "tuple") rfl)
  i_MOST_PLACES := He.int_ok X G (c.fact 71 (f := .int "MOST_PLACES" 30) rfl)
  i_MOST_CARTS := He.int_ok X G (c.fact 72 (f := .int "MOST_CARTS" 6) rfl)
  i_MOST_ROOM := He.int_ok X G (c.fact 73 (f := .int "MOST_ROOM" 20) rfl)
  i_MOST_WANT := He.int_ok X G (c.fact 74 (f := .int "MOST_WANT" 999) rfl)
  i_MOST_DEEDS := He.int_ok X G (c.fact 75 (f := .int "MOST_DEEDS" 20000) rfl)
  i_MOST_MADE := He.int_ok X G (c.fact 76 (f := .int "MOST_MADE" 1500) rfl)
  i_MOST_NUMBER := He.int_ok X G (c.fact 77 (f := .int "MOST_NUMBER" 1000000000000000000000000000000) rfl)
theorem errsR {K : PySem.W.Frag} {h : Heap} {mg : Str → Option Value} (X : K.In h) (G : h.Ns mainGlobals mg) (c : He.SaysD hfa hfn K) (m : errsB K = true) : Errs K mg := by
  refine errs_of m (fun x hx => ?_) (He.glo_ok X G (c.fact 0 (f := .glo "OatError") rfl))
  unfold errN at hx
  simp only [List.mem_cons, List.mem_nil_iff, or_false] at hx
  rcases hx with rfl | rfl | rfl | rfl | rfl | rfl | rfl
  · exact He.glo_ok X G (c.fact 1 (f := .glo "BadLand") rfl)
  · exact He.glo_ok X G (c.fact 2 (f := .glo "BadWorks") rfl)
  · exact He.glo_ok X G (c.fact 3 (f := .glo "BadWants") rfl)
  · exact He.glo_ok X G (c.fact 4 (f := .glo "BadPlan") rfl)
  · exact He.glo_ok X G (c.fact 5 (f := .glo "BadPaper") rfl)
  · exact He.glo_ok X G (c.fact 6 (f := .glo "BadText") rfl)
  · exact He.glo_ok X G (c.fact 7 (f := .glo "NoneSuch") rfl)
theorem planR {K : PySem.W.Frag} {h : Heap} {mg : Str → Option Value} (X : K.In h) (G : h.Ns mainGlobals mg) (c : He.SaysD hfa hfn K) (m : planB K = true) : PlanE K mg :=
  planE_of m (He.glo_ok X G (c.fact 4 (f := .glo "BadPlan") rfl)) (He.glo_ok X G (c.fact 0 (f := .glo "OatError") rfl))
theorem factsR {P : Program} {w : World} {K : PySem.W.Frag} {h : Heap} {mg : Str → Option Value} {f : Addr} (X : K.In h) (G : h.Ns mainGlobals mg) (hfa' : mg ("law" : Str) = some (.ref f)) (c : He.SaysD hfa hfn K) (m : allB K = true) :
    ∃ fd : FuncData, (∀ (s : Shared) (v : Value), BindsTo s fd ⟨[v], []⟩ [("script", v)]) ∧ ∀ base : Heap, K.In base → base.Ns mainGlobals mg → FnOk P w K mg base CX0 9 f fd ["script"] (sp_law K) := by
  obtain ⟨fd, F⟩ := c.def_ 55 (d := d_law) rfl
  have T := txtR X G c
  have e := hfa'.symm.trans (He.glo_ok X G (c.fact 55 (f := .glo "law") rfl))
  cases e
  have b := FunD.bindsA (ps := ["script"]) F fun _ _ _ _ _ _ us hl => match us, hl with | [_], _ => rfl
  exact ⟨fd, fun s v => b s [v] rfl, fun base _ _ => ok_law T (errsR X G c (He.ba m).1) (planR X G c (He.ba m).2) F⟩
end Oa
open PySem PySem.W PySem.Calls PyProof.Rows
theorem PySem.Challenge.cw_oatroads_k12_lands_refused_holds : PySem.Challenge.rw_oatroads_k12_lands_refused.Holds := by
  w_on; o_law
  refine HandSHeadRun.head_any (r := Oa.rowR) (q := view Oa.rowR.prog [70]) (H := Oa.hkR) (ob := Oa.obR) (M := 6000) (loose := Oa.hloose) (d := HandSHeadRun.topDef Oa.rowR.prog 70) (kwd := []) Oa.obR_eq
    (by kernel_rfl) (fun s => by kernel_rfl) Oa.runR (by kernel_rfl) (by kernel_rfl) (by kernel_rfl) (by rfl) (by first | assumption | decide +kernel) (by decide +kernel) ⟨rfl, rfl, rfl, rfl, rfl, by decide +kernel⟩ ?hw ?hc
  case hw => w_witness2
  case hc =>
    refine L2.walk_ofE (l := PySem.Challenge.rw_oatroads_k12_lands_refused) (n := 63) (k := 9) (x := "script") (CX := L2.CX0) rfl (by decide) (by kernel_rfl) ⟨rfl, by decide, by decide⟩ ?F (fun _ _ _ _ z => z)
    intro w mg fa h Y G hmg0
    obtain ⟨K, KX, c⟩ := Y
    have hmg : mg ("law" : PySem.Str) = some (.ref fa) := by
      have e : (HandSHeadRun.topDef Oa.rowR.prog 70).name = ("law" : PySem.Str) := by kernel_rfl
      rw [← e]
      exact hmg0
    obtain ⟨fd, hb, hF⟩ := Oa.factsR (P := (PySem.Challenge.rw_oatroads_k12_lands_refused).prog) (w := w) KX G hmg c.1 c.2
    exact ⟨K, fd, Oa.sp_law K, KX, hb, fun H a ns hl _ hS => ⟨a, ns, rfl, hS, fun _ => rfl⟩, hF⟩
