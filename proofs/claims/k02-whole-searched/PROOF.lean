import PyProof.Rows.All
import Wide.All
import OpenK.AllK
import Wide.FinOn
import HandS.ForMost
import HandS.Flow
import HandS.IsInst
import HandS.Defaults
import HandS.Walk
import HandS.More
import HandS.TupAny
import HandS.SortRule
import HandS.TupMul
import HandS.DictComp
import HandS.DeepEq
import KE.DataMinMax
import KE.SortData
import HandS.HeadHook1
import HandS.ForExc
import HandS.ExcIs
import HandS.CallSlots
import HandS.HeadHook4
import HandS.SetFor
import HandS.TupLe
import KE.KStateDown
import HandS.Ends
import HandS.Words
import HandS.WordsExc
import HandS.Head0
import HandS.Head1
import HandS.Head2
import HandS.HeadEnd
import HandS.HeadHook2
import HandS.HeadHook3
import HandS.SortInts
import HandS.SortOrd
import HandS.Strs
import KE.KDictKeyed
import KE.KDictDisplayH
import PySem.Challenge.RW_oatroads_k02_whole_searched
set_option Elab.async false
set_option linter.all false
set_option maxRecDepth 100000
set_option maxHeartbeats 0
namespace Oa
open PySem PySem.Spec PyProof.Rows L2

/-! ### defs of the top, and calls of them -/
section
variable (P : Program) (w : World) (K : PySem.W.Frag) (mg : Str → Option Value) (base : Heap)
/-- a def of the top as it stands -/
def Dfn (x : Str) (st : Stmt) (kws : List (Str × V)) : Prop := ∃ f fd, mg x = some (.ref f) ∧ FunD K x x (defArgs st) (defBody st) (defScope st) [] kws f fd
/-- it can be called by positions, and keeps its promise -/
def Cal (CX : CXT) (k : Nat) (x : Str) (ps : List Str) (sp : Sp) : Prop :=
  ∃ f fd, mg x = some (.ref f) ∧ PySem.W.keepIn K (.ref f) = true ∧ Binds K fd ps [] ∧ FnOk P w K mg base CX k f fd ps sp
end
section
variable {P : Program} {w : World} {K : PySem.W.Frag} {mg : Str → Option Value} {base : Heap}
theorem Cal.mono {CX : CXT} {j k : Nat} {x : Str} {ps : List Str} {sp : Sp} (c : Cal P w K mg base CX j x ps sp) (h : j ≤ k) : Cal P w K mg base CX k x ps sp := by
  obtain ⟨f, fd, g, kp, b, F⟩ := c
  exact ⟨f, fd, g, kp, b, F.mono h⟩
theorem Cal.imp {CX : CXT} {k : Nat} {x : Str} {ps : List Str} {sp sp' : Sp} (c : Cal P w K mg base CX k x ps sp) (h : ∀ vs H Q E, sp' vs H Q E → sp vs H Q E) : Cal P w K mg base CX k x ps sp' := by
  obtain ⟨f, fd, g, kp, b, F⟩ := c
  exact ⟨f, fd, g, kp, b, F.imp h⟩
/-- the body of a def that lets nothing out -/
theorem cal0 {x : Str} {st : Stmt} {N ps : List Str} {k : Nat} {sp : Sp} (D : Dfn K mg x st []) (S : FnScope N ps (defScope st))
    (bnd : ∀ (kV doc pm : Value) (an : Option Addr) (cdv ct : Value) (us : List Value), us.length = ps.length → bindArgs (PySem.W.fnOf x x (defArgs st) (defBody st) (defScope st) .none kV doc pm an cdv ct) ⟨us, []⟩ = pure (ps.zip us))
    (len : ∀ vs H Q E, sp vs H Q E → vs.length = ps.length)
    (hbody : ∀ (f : Addr) (cdv : Value) (A : Around) (outer : List Env) (s : Shared) (H : Hp) (vs : List V) (Q : VK) (E : XK), Room k (A.deeper (envOfC x (defScope st) s.heap.objs.size f cdv)) → sp vs H Q E →
      ∃ t, PSs (cxOf CX0 P w K mg base N x (defScope st) f cdv A outer s H E).nox (defBody st) t ∧ t { nx := fun _ H' => Q .non H', rt := Q } (start N vs) H) : Cal P w K mg base CX0 (k + 1) x ps sp := by
  obtain ⟨f, fd, g, F⟩ := D
  refine ⟨f, fd, g, F.kp, F.bindsN bnd, F.ok S len fun cdv A outer s H vs Q E hr h => ?_⟩
  obtain ⟨t, h1, h2⟩ := hbody f cdv A outer s H vs Q E hr h
  exact ⟨t, h1.nox, h2⟩
theorem none_left {CX : CXT} {x : Str} {st : Stmt} {ps : List Str} {sp : Sp} (D : Dfn K mg x st [])
    (bnd : ∀ (kV doc pm : Value) (an : Option Addr) (cdv ct : Value) (us : List Value), us.length = ps.length → bindArgs (PySem.W.fnOf x x (defArgs st) (defBody st) (defScope st) .none kV doc pm an cdv ct) ⟨us, []⟩ = pure (ps.zip us))
    (no : ∀ vs H Q E, ¬ sp vs H Q E) : Cal P w K mg base CX 0 x ps sp := by
  obtain ⟨f, fd, g, F⟩ := D
  exact ⟨f, fd, g, F.kp, F.bindsN bnd, ⟨fun vs H Q E h => absurd h (no vs H Q E), fun A outer s H args us vs Q E _ _ _ _ h => absurd h (no vs H Q E)⟩⟩
end
section
variable {X : Cx} {k : Nat} {x : Str} {ps : List Str} {sp : Sp} {e : Expr} {es : List Expr} {t : TA} {p pos : Pos}
/-- f(e, ..), f lets nothing out -/
theorem pcall (c : Cal X.prog X.w X.K X.mg X.base CX0 k x ps sp) (hr : Room k X.A) (ha : PA X (e :: es) t) (hg : Gl X x := by rfl)
    (hdb : (x == ("__debug__" : Str)) = false := by decide) (he : starEach (e :: es) X.env = (false, eval e X.env) :: starEach es X.env := by rfl) (hpl : (backTo pos (starEach es X.env)).any (·.1) = false := by rfl) :
    PE X (.Call (.Name x p) (e :: es) [] pos) (tCall sp [] E0 t) := by
  obtain ⟨f, fd, g, kp, b, F⟩ := c
  exact pe_call F hr hg g kp b .nil pass0 ha hdb he hpl
end

/-! ### defs with one keyword-only parameter that has a default -/
section
variable (P : Program) (w : World) (K : PySem.W.Frag) (mg : Str → Option Value) (base : Heap)
/-- it can be called with the keyword kw, or without it; n values by position -/
def CalK (CX : CXT) (k : Nat) (x : Str) (ps : List Str) (n : Nat) (kw : Str) (dv : V) (sp : Sp) : Prop :=
  ∃ f fd, mg x = some (.ref f) ∧ PySem.W.keepIn K (.ref f) = true ∧ KBn K fd ps n [kw] (fun us ws => us ++ ws) (fun vs zs => vs ++ zs) ∧ (∃ ds, Vals [dv] ds ∧ Binds K fd ps ds) ∧ FnOk P w K mg base CX k f fd ps sp
end
section
variable {P : Program} {w : World} {K : PySem.W.Frag} {mg : Str → Option Value} {base : Heap}
theorem calK {CX : CXT} {x kw : Str} {dv : V} {st : Stmt} {N ps : List Str} {k n : Nat} {sp : Sp} (D : Dfn K mg x st [(kw, dv)]) (S : FnScope N ps (defScope st)) (hn : n + 1 = ps.length)
    (bk : ∀ (D : Addr) (doc pm : Value) (an : Option Addr) (cdv ct : Value) (us ws : List Value), us.length = n → ws.length = 1 → bindArgs (PySem.W.fnOf x x (defArgs st) (defBody st) (defScope st) .none (.ref D) doc pm an cdv ct) ⟨us, [kw].zip ws⟩ = pure (ps.zip (us ++ ws)))
    (bd : ∀ (D : Addr) (doc pm : Value) (an : Option Addr) (cdv ct : Value) (us ks : List Value), us.length = n → ks.length = 1 → KwChain D ([kw].zip ks) (bindArgs (PySem.W.fnOf x x (defArgs st) (defBody st) (defScope st) .none (.ref D) doc pm an cdv ct) ⟨us, []⟩) (ps.zip (us ++ ks)))
    (len : ∀ vs H Q E, sp vs H Q E → vs.length = ps.length)
    (hbody : ∀ (f : Addr) (cdv : Value) (A : Around) (outer : List Env) (s : Shared) (H : Hp) (vs : List V) (Q : VK) (E : XK), Room k (A.deeper (envOfC x (defScope st) s.heap.objs.size f cdv)) → sp vs H Q E →
      ∃ t, PSs (cxOf CX P w K mg base N x (defScope st) f cdv A outer s H E) (defBody st) t ∧ t { nx := fun _ H' => Q .non H', rt := Q } (start N vs) H) : CalK P w K mg base CX (k + 1) x ps n kw dv sp := by
  obtain ⟨f, fd, g, F⟩ := D
  refine ⟨f, fd, g, F.kp, ?_, ?_, F.ok S len fun cdv A outer s H vs Q E hr h => hbody f cdv A outer s H vs Q E hr h⟩
  · obtain ⟨oc, od, dV, kV, doc, pm, an, cdv, ct, osl, rfl, lk, hcd, hD, hK⟩ := F.ex
    rcases hD with ⟨_, rfl⟩ | ⟨e, _⟩
    · rcases hK with e | ⟨D, rfl, hq⟩
      · cases e
      · exact ⟨fun s us ws _ l1 l2 => .of_eq (bk D doc pm an cdv ct us ws l1 l2), fun r1 r2 => r1.append r2⟩
    · exact absurd rfl e
  · exact F.binds0 n (fun e => by cases e) hn (fun D doc pm an cdv ct us ks l1 l2 => bd D doc pm an cdv ct us ks l1 l2)
end
section
variable {X : Cx} {CX : CXT} {k n : Nat} {x kw : Str} {dv : V} {ps : List Str} {sp : Sp} {e ek : Expr} {es : List Expr} {t : TA} {te : TE} {p pos kpos : Pos} {E : XK}
/-- f(e, .., kw = v) -/
theorem pcallK (c : CalK X.prog X.w X.K X.mg X.base CX k x ps n kw dv sp) (hr : Room k X.A) (hx : Passes CX X E) (ha : PA X (e :: es) t) (hk : PE X ek te) (hg : Gl X x := by rfl) 
    (hall : (backToKw pos (keywordEach [⟨some kw, ek, kpos⟩] X.env)).all (·.1.isSome) = true := by rfl) (hks : (backToKw pos (keywordEach [⟨some kw, ek, kpos⟩] X.env)).filterMap (·.1) = [kw] := by rfl)
    (hdb : (x == ("__debug__" : Str)) = false := by decide) (he : starEach (e :: es) X.env = (false, eval e X.env) :: starEach es X.env := by rfl)
    (hpl : ((backTo pos (starEach (e :: es) X.env)).any (·.1) || (backToKw pos (keywordEach [⟨some kw, ek, kpos⟩] X.env)).any (·.1.isNone)) = false := by rfl) :
    PE X (.Call (.Name x p) (e :: es) [⟨some kw, ek, kpos⟩] pos) (tCallN n 1 sp (fun vs zs => vs ++ zs) E t (tCons te tNil)) := by
  obtain ⟨f, fd, g, kp, b, _, F⟩ := c
  exact pe_callN F hr hg g kp b hx ha (pk_cons hk pk_nil) hall hks hdb he hpl
/-- f(e, ..), kw left out -/
theorem pcallD (c : CalK X.prog X.w X.K X.mg X.base CX k x ps n kw dv sp) (hr : Room k X.A) (hx : Passes CX X E) (ha : PA X (e :: es) t) (hg : Gl X x := by rfl)
    (hdb : (x == ("__debug__" : Str)) = false := by decide) (he : starEach (e :: es) X.env = (false, eval e X.env) :: starEach es X.env := by rfl) (hpl : (backTo pos (starEach es X.env)).any (·.1) = false := by rfl) :
    PE X (.Call (.Name x p) (e :: es) [] pos) (tCall sp [dv] E t) := by
  obtain ⟨f, fd, g, kp, _, ⟨ds, hv, b⟩, F⟩ := c
  exact pe_call F hr hg g kp b hv hx ha hdb he hpl
end

/-! ### heaps -/
theorem same_new {H : Hp} {p : Addr} {o : HO} (h : H p = none) : Same H (upd H p o) := fun b x e => by
  rw [upd_ne (ne_of_none e h)]
  exact e
/-- an object that H does not know may change -/
theorem same_mut {H H' : Hp} {p : Addr} {o : HO} (e : Same H H') (h : H p = none) : Same H (upd H' p o) := fun a u ha => by
  rw [upd_ne (ne_of_none ha h)]
  exact e a u ha
/-- for readers: what is there to be read, locked or not -/
def NFz (u : HO) : Prop := ∀ o v, u ≠ .frz o v
theorem nf_t {xs : List V} : NFz (.tup xs) := fun _ _ e => nomatch e
theorem nf_l {xs : List V} : NFz (.lst xs) := fun _ _ e => nomatch e
theorem nf_d {xs : List (Key × V)} : NFz (.dK xs) := fun _ _ e => nomatch e
def Ext (H H' : Hp) : Prop := ∀ a u, NFz u → Rd H a u → Rd H' a u
theorem Ext.refl (H : Hp) : Ext H H := fun _ _ _ h => h
theorem Ext.trans {H H1 H2 : Hp} (a : Ext H H1) (b : Ext H1 H2) : Ext H H2 := fun c o n h => b c o n (a c o n h)
theorem ext_of {H H' : Hp} (e : Same H H') : Ext H H' := fun a u _ h => by
  rcases h with h | ⟨o, h⟩
  · exact .inl (e _ _ h)
  · exact .inr ⟨o, e _ _ h⟩
theorem Ext.l {K : PySem.W.Frag} {H H' : Hp} {a : Addr} {xs : List V} (e : Ext H H') (h : SqL K H a xs) : SqL K H' a xs := by
  rcases h with h | h
  · exact .inl (e _ _ nf_l h)
  · exact .inr h
theorem Ext.t {K : PySem.W.Frag} {H H' : Hp} {a : Addr} {xs : List V} (e : Ext H H') (h : SqT K H a xs) : SqT K H' a xs := by
  rcases h with h | h
  · exact .inl (e _ _ nf_t h)
  · exact .inr h
theorem Ext.d {H H' : Hp} {a : Addr} {xs : List (Key × V)} (e : Ext H H') (h : Rd H a (.dK xs)) : Rd H' a (.dK xs) := e _ _ nf_d h
theorem same_t {K : PySem.W.Frag} {H H' : Hp} {a : Addr} {xs : List V} (e : Same H H') (h : SqT K H a xs) : SqT K H' a xs := (ext_of e).t h
theorem same_l {K : PySem.W.Frag} {H H' : Hp} {a : Addr} {xs : List V} (e : Same H H') (h : SqL K H a xs) : SqL K H' a xs := (ext_of e).l h
theorem sqt {K : PySem.W.Frag} {H : Hp} {a : Addr} {xs : List V} (h : H a = some (.tup xs)) : SqT K H a xs := .inl (.inl h)
theorem sql {K : PySem.W.Frag} {H : Hp} {a : Addr} {xs : List V} (h : H a = some (.lst xs)) : SqL K H a xs := .inl (.inl h)
/-- locks -/
theorem lock_ext {H : Hp} {d : Addr} {u : HO} {od : Obj} (hd : H d = some u) (nf : NFz u) : Ext H (upd H d (.frz od u)) := fun a v _ h => by
  by_cases e : a = d
  · subst e
    rcases h with h | ⟨o, h⟩
    · rw [hd] at h
      cases h
      exact .inr ⟨od, upd_same⟩
    · rw [hd] at h
      cases h
      exact absurd rfl (nf _ _)
  · rcases h with h | ⟨o, h⟩
    · exact .inl (by rw [upd_ne e]; exact h)
    · exact .inr ⟨o, by rw [upd_ne e]; exact h⟩
theorem unlock_ext {H : Hp} {d : Addr} {u : HO} {od : Obj} (hd : H d = some (.frz od u)) : Ext H (upd H d u) := fun a v n h => by
  by_cases e : a = d
  · subst e
    rcases h with h | ⟨o, h⟩
    · rw [hd] at h
      cases h
      exact absurd rfl (n _ _)
    · rw [hd] at h
      cases h
      exact .inl upd_same
  · rcases h with h | ⟨o, h⟩
    · exact .inl (by rw [upd_ne e]; exact h)
    · exact .inr ⟨o, by rw [upd_ne e]; exact h⟩
theorem lock_same {H H' : Hp} {d : Addr} {u : HO} {od : Obj} (hd : H d = some u) (s : Same (upd H d (.frz od u)) H') : Same H (upd H' d u) := fun a v h => by
  by_cases e : a = d
  · subst e
    rw [hd] at h
    cases h
    exact upd_same
  · rw [upd_ne e]
    exact s a v (by rw [upd_ne e]; exact h)

/-! ### comprehensions: which turns give, and what is true of what they give -/
def SameBut (D : Addr) (H H' : Hp) : Prop := ∀ b o, b ≠ D → H b = some o → H' b = some o
theorem same_but {D : Addr} {H H' : Hp} (s : Same H H') : SameBut D H H' := fun b o _ e => s b o e
theorem paired_snoc {α β : Type} {R : α → β → Prop} : ∀ {xs : List α} {ys : List β} {x : α} {y : β}, Paired R xs ys → R x y → Paired R (xs ++ [x]) (ys ++ [y])
  | _, _, _, _, .nil, h => .cons h .nil
  | _, _, _, _, .cons a b, h => .cons a (paired_snoc b h)
theorem paired_imp {α β : Type} {R S : α → β → Prop} : ∀ {xs : List α} {ys : List β}, Paired R xs ys → (∀ x y, R x y → S x y) → Paired S xs ys
  | _, _, .nil, _ => .nil
  | _, _, .cons a b, h => .cons (h _ _ a) (paired_imp b h)
theorem lc_rel {J : It} {n : Nat} {G : Hp → Prop} {Y : Nat → Hp → V → Hp → Prop} (w : Walk J n G Y) {tt : TT} {te : TE} {vs : List Nat} {σ : L2.St} {j : Nat} {H1 : Hp} {D : Addr} {Qd : Hp → Prop} (hD : H1 D = none) (hn : n ≤ 1000)
    (hG : ∀ H, Same H1 H → G H) (f : Nat → Bool) (R : Nat → V → Hp → Prop) (mono : ∀ i v H H' l, H D = some (.lst l) → SameBut D H H' → R i v H → R i v H')
    (step : ∀ i x H2 H3 l, i < n → Same H1 H2 → H2 D = some (.lst l) → Y i H2 x H3 → Same H2 H3 ∧ wipe ((wipe σ vs).set j (some x)) vs = wipe σ vs ∧
      (∀ Q : Bool → Hp → Prop, (∀ H4, Same H3 H4 → Q (f i) H4) → tt ((wipe σ vs).set j (some x)) H3 Q) ∧
      (f i = true → ∀ H4, Same H3 H4 → ∀ Q : VK, (∀ v H5, Same H4 H5 → R i v H5 → Q v H5) → te ((wipe σ vs).set j (some x)) H4 Q))
    (q : ∀ ys H2, Same H1 H2 → H2 D = some (.lst ys) → Paired (fun i v => R i v H2) ((List.range n).filter f) ys → Qd H2) :
    ∃ W : Nat → Nat → Hp → Prop, (∃ m, W 0 m (upd H1 D (.lst []))) ∧ ∀ i m H, W i m H →
      (J.stop i H ∧ Qd H) ∨ (J.go i H ∧ ∃ Nx : Hp → Prop, (∀ H', Nx H' → ∃ m', m' < m ∧ W (i + 1) m' H') ∧ ∀ x H', J.yld i H x H' → gName j x (wipe σ vs) H' fun σ2 H2 => wipe σ2 vs = wipe σ vs ∧ tt σ2 H2 fun b H3 =>
        if b = true then te σ2 H3 fun y H4 => ∃ acc, H4 D = some (.lst acc) ∧ acc.length < sizeLine ∧ Nx (upd H4 D (.lst (acc ++ [y]))) else Nx H3) := by
  refine lc_it w (g := gName j) (Qd := Qd) (fun i H => Same H1 H ∧ ∃ ys, H D = some (.lst ys) ∧ ys.length ≤ i ∧ Paired (fun i v => R i v H) ((List.range i).filter f) ys)
    ⟨same_new hD, [], upd_same, Nat.le_refl _, .nil⟩ (fun i H _ p => hG H p.1) (fun i x H2 H3 hi p y => ?_) (fun H p => ?_)
  · obtain ⟨s1, ys, hy, hl, hp⟩ := p
    obtain ⟨s2, e, h1, h2⟩ := step i x H2 H3 ys hi s1 hy y
    refine ⟨e, h1 _ fun H4 s3 => ?_⟩
    have hy4 : H4 D = some (.lst ys) := s3 _ _ (s2 _ _ hy)
    cases hf : f i with
    | true =>
      show te _ H4 _
      refine h2 hf H4 s3 _ fun v H5 s4 r => ?_
      have hy5 : H5 D = some (.lst ys) := s4 _ _ hy4
      have ss : Same H2 H5 := s2.trans (s3.trans s4)
      have sb : SameBut D H5 (upd H5 D (.lst (ys ++ [v]))) := fun b o hb eb => by rw [upd_ne hb]; exact eb
      refine ⟨ys, hy5, Nat.lt_of_lt_of_le (show ys.length < 1001 by omega) (by decide), same_mut (s1.trans ss) hD, ys ++ [v], upd_same, by simp; omega, ?_⟩
      rw [List.range_succ, List.filter_append, show [i].filter f = [i] by simp [hf]]
      exact paired_snoc (paired_imp hp fun k u z => mono k u _ _ _ hy5 sb (mono k u _ _ _ hy (same_but ss) z)) (mono i v _ _ _ hy5 sb r)
    | false =>
      show Same H1 H4 ∧ _
      refine ⟨s1.trans (s2.trans s3), ys, hy4, by omega, ?_⟩
      rw [List.range_succ, List.filter_append, show [i].filter f = [] by simp [hf], List.append_nil]
      exact paired_imp hp fun k u z => mono k u _ _ _ hy (same_but (s2.trans s3)) z
  · obtain ⟨s1, ys, hy, _, hp⟩ := p
    exact q ys H s1 hy hp

/-! ### rules with the written part told -/
section
variable {X : Cx}
theorem ixT (K : PySem.W.Frag) (h : X.K = K := by rfl) : IxR X (rIxT K) := by subst h; exact ix_tup
theorem ixL (K : PySem.W.Frag) (h : X.K = K := by rfl) : IxR X (rIxL K) := by subst h; exact ix_list
theorem lenS (K : PySem.W.Frag) (h : X.K = K := by rfl) : CallR X (.builtin "len") (fun xs H Q => ∃ p ys, xs = [.ref p] ∧ (SqL K H p ys ∨ SqT K H p ys) ∧ Q (.int ys.length) H) := by subst h; exact call_len_seq
theorem isi (K : PySem.W.Frag) (h : X.K = K := by rfl) : CallR X (.builtin "isinstance") (rIsi K) := by subst h; exact call_isi
theorem allL (K : PySem.W.Frag) (hc : X.calm = true) (h : X.K = K := by rfl) : CallR X (.builtin "all") (rAll K) := by subst h; exact cr_all hc
theorem anyL (K : PySem.W.Frag) (hc : X.calm = true) (h : X.K = K := by rfl) : CallR X (.builtin "any") (rAny K) := by subst h; exact cr_any hc
theorem sumI (K : PySem.W.Frag) (hc : X.calm = true) (h : X.K = K := by rfl) : CallR X (.builtin "sum") (rSum K) := by subst h; exact cr_sum hc
theorem minI (K : PySem.W.Frag) (hc : X.calm = true) (h : X.K = K := by rfl) : CallR X (.builtin "min") (rMin K) := by subst h; exact cr_min hc
theorem maxI (K : PySem.W.Frag) (hc : X.calm = true) (h : X.K = K := by rfl) : CallR X (.builtin "max") (rMax K) := by subst h; exact cr_max hc
theorem srtPO (K : PySem.W.Frag) (h : X.K = K := by rfl) : CallR X (.builtin "sorted") (rSortedPO K) := by subst h; exact cr_sortedPO
theorem catA (K : PySem.W.Frag) (h : X.K = K := by rfl) : OpR X (binaryOp .Add) (rCatA K) := by subst h; exact op_catA
theorem slA (K : PySem.W.Frag) (h : X.K = K := by rfl) : SlR X (rSlA K) := by subst h; exact sl_tupA
theorem slL (K : PySem.W.Frag) (h : X.K = K := by rfl) : SlR X (rSlL K) := by subst h; exact sl_list
theorem repT (K : PySem.W.Frag) (h : X.K = K := by rfl) : OpR X (binaryOp .Mult) (rRepT K) := by subst h; exact op_repT
theorem inS (K : PySem.W.Frag) (h : X.K = K := by rfl) : OpR X (compareOp .In) (rIn K false) := by subst h; exact op_in_seq
theorem ninS (K : PySem.W.Frag) (h : X.K = K := by rfl) : OpR X (compareOp .NotIn) (rIn K true) := by subst h; exact op_notIn_seq
theorem eqDt (K : PySem.W.Frag) (hu : X.A.units + 64 < cLine) (h : X.K = K := by rfl) : OpR X (compareOp .Eq) (rEqD K) := by subst h; exact op_eqD hu
theorem neDt (K : PySem.W.Frag) (hu : X.A.units + 64 < cLine) (h : X.K = K := by rfl) : OpR X (compareOp .NotEq) (rNeD K) := by subst h; exact op_neD hu
theorem listOf (K : PySem.W.Frag) (h : X.K = K := by rfl) : CallR X (.type "list") (fun xs H Q => ∃ p ys, xs = [.ref p] ∧ (SqL K H p ys ∨ SqT K H p ys) ∧ ∀ l, H l = none → Q (.ref l) (upd H l (.lst ys))) := by subst h; exact call_list_of
theorem tupOf (K : PySem.W.Frag) (h : X.K = K := by rfl) : CallR X (.type "tuple") (fun xs H Q => ∃ p ys, xs = [.ref p] ∧ ((SqL K H p ys ∧ ∀ l, H l = none → Q (.ref l) (upd H l (.tup ys))) ∨ (SqT K H p ys ∧ Q (.ref p) H))) := by subst h; exact call_tuple_of
theorem piL (K : PySem.W.Frag) {tg l : Expr} {tl : TE} (hl : PE X l tl) (h : X.K = K := by rfl) : PI X tg l (iList K tl) := by subst h; exact pi_list hl
theorem piT (K : PySem.W.Frag) {tg l : Expr} {tl : TE} (hl : PE X l tl) (h : X.K = K := by rfl) : PI X tg l (iTup K tl) := by subst h; exact pi_tup hl
theorem peOrT (K : PySem.W.Frag) {a b : Expr} {rest : List Expr} {pos : Pos} {ta tb : TE} (ha : PE X a ta) (hb : PE X (.BoolOp .Or (b :: rest) pos) tb) (h : X.K = K := by rfl) : PE X (.BoolOp .Or (a :: b :: rest) pos) (tOrT K ta tb) := by subst h; exact pe_orT ha hb
end

/-! ### tests that leave the heap as it is -/
def T0 (t : TT) (σ : L2.St) (H : Hp) (b : Bool) : Prop := ∀ Q : Bool → Hp → Prop, Q b H → t σ H Q
section
variable {t u : TT} {σ : L2.St} {H : Hp} {a b : Bool} {tu tw : TS} {D : Ends} {ta tb : TE} {Q : VK}
theorem t0_and (h1 : T0 t σ H a) (h2 : a = true → T0 u σ H b) : T0 (tAnd t u) σ H (a && b) := fun Q q => h1 _ (by
  cases a with
  | true => exact h2 rfl Q q
  | false => exact q)
theorem t0_or (h1 : T0 t σ H a) (h2 : a = false → T0 u σ H b) : T0 (tOr t u) σ H (a || b) := fun Q q => h1 _ (by
  cases a with
  | true => exact q
  | false => exact h2 rfl Q q)
theorem t0_not (h : T0 t σ H a) : T0 (tNot t) σ H (!a) := fun Q q => h _ q
theorem t0_is (h : T0 t σ H a) (e : a = b) : T0 t σ H b := e ▸ h
theorem if0 (h : T0 t σ H b) (h1 : b = true → tu D σ H) (h2 : b = false → tw D σ H) : tIfS t tu tw D σ H := h _ (by
  cases b with
  | true => exact h1 rfl
  | false => exact h2 rfl)
theorem if0s {tr : TS} (h : T0 t σ H b) (h1 : b = true → tu { D with nx := tr D } σ H) (h2 : b = false → tw { D with nx := tr D } σ H) : tSeq (tIfS t tu tw) tr D σ H := if0 h h1 h2
theorem ifx0 (h : T0 t σ H b) (h1 : b = true → ta σ H Q) (h2 : b = false → tb σ H Q) : tIf t ta tb σ H Q := h _ (by
  cases b with
  | true => exact h1 rfl
  | false => exact h2 rfl)
end
end Oa
namespace Oat

/-! ### dicts with whole keys, as lists of pairs -/
def dput {α : Type} : List (Nat × α) → Nat → α → List (Nat × α)
  | [], k, v => [(k, v)]
  | (j, u) :: r, k, v => if j = k then (j, v) :: r else (j, u) :: dput r k v
def dget {α : Type} : List (Nat × α) → Nat → Option α
  | [], _ => none
  | (j, u) :: r, k => if j = k then some u else dget r k

/-! ### rows (sum, parting) and their order -/
def lexN : List Nat → List Nat → Bool
  | [], [] => false
  | [], _ :: _ => true
  | _ :: _, [] => false
  | x :: xs, y :: ys => if x = y then lexN xs ys else decide (x < y)
def rlt (a b : Int × List Nat) : Bool := if a.1 = b.1 then lexN a.2 b.2 else decide (a.1 < b.1)
def rmin (a b : Int × List Nat) : Int × List Nat := if rlt b a = true then b else a

abbrev Fnd := List (Nat × (Int × List Nat))
def addRow (left : Nat) (used : Nat) (u : Int × List Nat) (acc : Fnd) (s : Nat × Int) : Fnd :=
  if used + s.1 ≤ left then
    dput acc (used + s.1) (rmin ((dget acc (used + s.1)).getD (u.1 + s.2, u.2 ++ [s.1])) (u.1 + s.2, u.2 ++ [s.1]))
  else acc
def stepBest (left : Nat) (found : Fnd) (table : List (Nat × Int)) : Fnd :=
  found.foldl (fun acc e => table.foldl (addRow left e.1 e.2) acc) []
def bestF (ts : List (List (Nat × Int))) (left : Nat) : Fnd := ts.foldl (stepBest left) [(0, (0, []))]
def best (ts : List (List (Nat × Int))) (left : Nat) : Option (Int × List Nat) :=
  match bestF ts left with
  | [] => none
  | e :: r => some (r.foldl (fun m x => rmin m x.2) e.2)

/-! ### lands: L has the place ahead of each place but the base: of place i + 1 it is L[i] -/
def kids (L : List Nat) (p : Nat) : List Nat := ((List.range L.length).filter fun i => L.getD i 0 == p).map (· + 1)
def WfL (L : List Nat) : Prop := ∀ i, i < L.length → L.getD i 0 ≤ i

structure Case where
  L : List Nat
  room : Nat
  W : List (Option Nat)
  left : Nat

def wantN (W : List (Option Nat)) (p : Nat) : Int := match W.getD p none with
  | none => 0
  | some u => (u : Int)

def outF (room : Nat) (need : Int) (e : Nat) : Option Int :=
  if need ≤ (max e 1 : Nat) * ((room : Int) - 2) + e then some ((max e 1 : Nat) : Int)
  else if room = 2 then none else some (-(((e : Int) - need) / ((room : Int) - 2)))

def wantedF (L : List Nat) (W : List (Option Nat)) : Nat → Nat → Bool
  | 0, p => (W.getD p none).isSome
  | f + 1, p => (W.getD p none).isSome || (kids L p).any (wantedF L W f)
def wanted (L : List Nat) (W : List (Option Nat)) (p : Nat) : Bool := wantedF L W L.length p

structure TRow where
  tk : Int
  out : Int
  back : Int
  part : List Nat

/-- what is taken for a place, given its need and the parting -/
def takenOf (c : Case) (p : Nat) (n : Int × List Nat) (e : Nat) : Option TRow :=
  if p = 0 then some ⟨n.1, 0, 0, n.2⟩
  else if e = 0 ∧ wanted c.L c.W p = false then some ⟨0, 0, 0, n.2⟩
  else (outF c.room n.1 e).map fun o => ⟨n.1 + 2 * o - e, o, o - e, n.2⟩
def needOf (W : List (Option Nat)) (p : Nat) (ts : List (List (Nat × Int))) (left : Nat) : Option (Int × List Nat) := (best ts left).map fun e => (e.1 + wantN W p, e.2)
def rowOf (c : Case) (p : Nat) (ts : List (List (Nat × Int))) (e : Nat) : Option TRow := (needOf c.W p ts e).bind fun n => takenOf c p n e
abbrev Tab := List (Nat × TRow)
def tabOf (c : Case) (p : Nat) (ts : List (List (Nat × Int))) : Tab := (List.range (c.left + 1)).filterMap fun e => (rowOf c p ts e).map fun r => (e, r)
def takes (t : Tab) : List (Nat × Int) := t.map fun x => (x.1, x.2.tk)
def tabF (c : Case) : Nat → Nat → Tab
  | 0, _ => []
  | f + 1, p => tabOf c p ((kids c.L p).map fun k => takes (tabF c f k))
def tab (c : Case) (p : Nat) : Tab := tabF c (c.L.length + 1) p

/-! ### the least of a table -/
def plt (a b : Int × Nat) : Bool := if a.1 = b.1 then decide (a.2 < b.2) else decide (a.1 < b.1)
def pmin (a b : Int × Nat) : Int × Nat := if plt b a = true then b else a
def bestL (tb : List (Nat × Int)) : Option (Int × Nat) := match tb with
  | [] => none
  | x :: r => some (r.foldl (fun m y => pmin m (y.2, y.1)) (x.2, x.1))
def least (c : Case) : Option Int := (bestL (takes (tab c 0))).map (·.1)

/-! ### kids -/
theorem mem_kids {L : List Nat} {p k : Nat} : k ∈ kids L p ↔ ∃ i, i < L.length ∧ L.getD i 0 = p ∧ k = i + 1 := by
  unfold kids
  simp only [List.mem_map, List.mem_filter, List.mem_range, beq_iff_eq]
  constructor
  · rintro ⟨i, ⟨h1, h2⟩, rfl⟩; exact ⟨i, h1, h2, rfl⟩
  · rintro ⟨i, h1, h2, rfl⟩; exact ⟨i, ⟨h1, h2⟩, rfl⟩
theorem kids_gt {L : List Nat} (w : WfL L) {p k : Nat} (h : k ∈ kids L p) : p < k ∧ k ≤ L.length := by
  obtain ⟨i, h1, h2, rfl⟩ := mem_kids.mp h
  have := w i h1
  omega
theorem tabF_stable {c : Case} (w : WfL c.L) : ∀ (f g p : Nat), c.L.length + 1 ≤ f + p → c.L.length + 1 ≤ g + p → p ≤ c.L.length → tabF c f p = tabF c g p
  | 0, _, p, h, _, hp => by omega
  | f + 1, 0, p, _, h, hp => by omega
  | f + 1, g + 1, p, hf, hg, hp => by
    unfold tabF
    congr 1
    refine List.map_congr_left fun k hk => ?_
    have := kids_gt w hk
    rw [tabF_stable w f g k (by omega) (by omega) (by omega)]
theorem tab_eq {c : Case} (w : WfL c.L) {p : Nat} (hp : p ≤ c.L.length) : tab c p = tabOf c p ((kids c.L p).map fun k => takes (tab c k)) := by
  show tabOf c p _ = _
  congr 1
  refine List.map_congr_left fun k hk => ?_
  have := kids_gt w hk
  show takes (tabF c c.L.length k) = takes (tabF c (c.L.length + 1) k)
  rw [tabF_stable w c.L.length (c.L.length + 1) k (by omega) (by omega) (by omega)]
theorem tabF_tab {c : Case} (w : WfL c.L) {f p : Nat} (hp : p ≤ c.L.length) (hf : c.L.length + 1 ≤ f + p) : tabF c f p = tab c p :=
  tabF_stable w f _ p hf (by omega) hp
theorem wantedF_stable {L : List Nat} {W : List (Option Nat)} (w : WfL L) : ∀ (f g p : Nat), L.length ≤ f + p → L.length ≤ g + p → p ≤ L.length → wantedF L W f p = wantedF L W g p
  | 0, 0, p, _, _, _ => rfl
  | 0, g + 1, p, h, _, hp => by
    unfold wantedF
    have : kids L p = [] := by
      apply List.eq_nil_iff_forall_not_mem.mpr
      intro k hk
      have := kids_gt w hk
      omega
    rw [this]; simp
  | f + 1, 0, p, _, h, hp => by
    unfold wantedF
    have : kids L p = [] := by
      apply List.eq_nil_iff_forall_not_mem.mpr
      intro k hk
      have := kids_gt w hk
      omega
    rw [this]; simp
  | f + 1, g + 1, p, hf, hg, hp => by
    unfold wantedF
    congr 1
    have h : ∀ k ∈ kids L p, wantedF L W f k = wantedF L W g k := fun k hk => by
      have := kids_gt w hk
      exact wantedF_stable w f g k (by omega) (by omega) (by omega)
    rw [Bool.eq_iff_iff, List.any_eq_true, List.any_eq_true]
    constructor
    · rintro ⟨k, hk, e⟩; exact ⟨k, hk, by rw [← h k hk]; exact e⟩
    · rintro ⟨k, hk, e⟩; exact ⟨k, hk, by rw [h k hk]; exact e⟩
theorem wanted_eq {L : List Nat} {W : List (Option Nat)} (w : WfL L) {p : Nat} (hp : p ≤ L.length) : wanted L W p = ((W.getD p none).isSome || (kids L p).any (wanted L W)) := by
  show wantedF L W L.length p = _
  rw [wantedF_stable w L.length (L.length + 1) p (by omega) (by omega) hp]
  rfl

end Oat
namespace PySem.W
open PySem PySem.SeqAt PyProof.Rows
section
variable {prog : Program} {w : World} {A : Around} {E : Value → Shared → Prop} {s : Shared}
/-- min(a, b), compared where a heap stands -/
theorem oa_min_two {a b : Value} {Q : Value → Shared → Prop}
    (h : wpAny (model prog w) A.in1 (pyIter (.ref s.heap.objs.size)) (fun it s₂ => ∃ I fp wr G n P St H bt, it = .ref I ∧ WalksS prog w A.in1 I fp wr G n P St ∧ St 0 s₂ ∧ (∀ b ∈ fp, b < s₂.heap.objs.size) ∧ 0 < n ∧
      (∀ b o, H.get? b = some o → b ∉ wr) ∧ (∀ b o, H.get? b = some o → s₂.heap.get? b = some o) ∧ CmpIn prog w A.in1 .Lt H P bt ∧ ∀ v s', P (argBest bt (n - 1)) v → Moved wr G s₂ s' → Q v s') E
      { s with heap := s.heap.push { cls := .type "tuple", data := .seq #[a, b] } }) :
    wpAny (model prog w) A (call (.builtin "min") [a, b]) Q E s := by
  have hname : (toString "min" ++ toString ".loop" : String) = "min.loop" := by decide
  refine call_function_tree F.kind_min F.plain_min F.entry_min (F.args_min2 _ _) ?_
  show wpAny _ A.in1 (Builtin.Builtins.bindParams "min" ["key", "default"] 0 ⟨[], []⟩ >>= _) _ _ s
  refine wpAny_bind (wpAny_of_eq (show Builtin.Builtins.bindParams "min" ["key", "default"] 0 ⟨[], []⟩ = pure [none, none] from rfl) ?_)
  show wpAny _ A.in1 (newTuple [a, b] >>= _) _ _ s
  refine wpAny_bind (wpAny_newObj_type ?_)
  refine wpAny_bind (wpAny_mono h (fun it s₂ h₂ => ?_) fun _ _ e => e)
  obtain ⟨I, fp, wr, G, n, P, St, H, bt, rfl, W, hst, hfp, hn, hw, hkeep, hcmp, hQ⟩ := h₂
  refine wpAny_bind (wpAny_newObj_type ?_)
  have hSf : s₂.heap.objs.size ∉ fp := fun hm => Nat.lt_irrefl _ (hfp _ hm)
  rw [hname]
  refine wpAny_pure ⟨plainId_quiet F.plain_min_loop _, codeAny_min_loop_firstH W H hw bt hcmp s₂.heap.objs.size hSf (fresh_in hkeep) _ hn (fun b o e => Heap.get?_push_of_some _ (hkeep b o e)) (W.frame 0 s₂ _ s₂.toks hst (Nat.le_refl _) fun b _ o e => Heap.get?_push_of_some _ e) (Heap.get?_push_size _ rfl) fun v s' hP hm => ?_⟩
  exact hQ v s' hP (Moved.drop_new (tk := s₂.toks) hm (Nat.le_refl _))
theorem oa_min_data {a b : Value} {da db : PyData} {as bs : List Addr} {Q : Value → Shared → Prop} (hh : A.handled = none) (ra : Reads s.heap a da as) (rb : Reads s.heap b db bs) (ha : AlikeAll [da, db]) (hu : A.units + 1 + PyData.depthAll [da, db] < cLine)
    (h : ∀ h' tk, (∀ c o, s.heap.get? c = some o → h'.get? c = some o) → Q (if dataLt db da = true then b else a) { s with heap := h', toks := tk }) :
    wpAny (model prog w) A (call (.builtin "min") [a, b]) Q E s := by
  have hT : (s.heap.push { cls := .type "tuple", data := .seq #[a, b] }).IsTuple s.heap.objs.size #[a, b] := ⟨_, Heap.get?_push_size _ rfl, rfl, 0, rfl⟩
  have k0 : ∀ c o, s.heap.get? c = some o → (s.heap.push { cls := .type "tuple", data := .seq #[a, b] }).get? c = some o := fun c o e => Heap.get?_push_of_some _ e
  have hr : ReadsAll (s.heap.push { cls := .type "tuple", data := .seq #[a, b] }) (#[a, b] : Array Value).toList [da, db] _ := .cons (Reads.keeps k0 ra) (.cons (Reads.keeps k0 rb) .nil)
  refine oa_min_two (iter_tupleW (A := A.in1) (s := { s with heap := s.heap.push { cls := .type "tuple", data := .seq #[a, b] } }) hh hT fun s₂ e W st hfp hw hk => ?_)
  refine ⟨_, _, _, _, _, _, _, s.heap.push { cls := .type "tuple", data := .seq #[a, b] }, _, rfl, W, st, hfp, Nat.succ_pos 1, hw, hk, cmpIn_lt (s := { s with heap := s.heap.push { cls := .type "tuple", data := .seq #[a, b] } }) (A := A.in1) hr ha (by show A.units + 1 + _ < _; exact hu), fun v s' hP m => ?_⟩
  obtain ⟨h', tk, rfl, hk'⟩ := moved_old e rfl m
  have q := h h' tk fun c o ec => hk' c o (k0 c o ec)
  have ev : v = if dataLt db da = true then b else a := by
    have hP' : (#[a, b] : Array Value)[argBest (fun i j => dataLt ([da, db].getD i .none) ([da, db].getD j .none)) 1]? = some v := hP
    have eb : argBest (fun i j => dataLt ([da, db].getD i .none) ([da, db].getD j .none)) 1 = if dataLt db da = true then 1 else 0 := by
      simp only [argBest]
      rfl
    rw [eb] at hP'
    by_cases c : dataLt db da = true
    · rw [if_pos c] at hP' ⊢
      exact (Option.some.inj hP').symm
    · rw [if_neg c] at hP' ⊢
      exact (Option.some.inj hP').symm
  rw [ev]
  exact q
/-- min of a list: which item -/
theorem oa_min_list {l : Addr} {vs : Array Value} {x : PyData} {xs : List PyData} {as : List Addr} {Q : Value → Shared → Prop} (hh : A.handled = none) (hl : s.heap.IsList l vs) (hr : ReadsAll s.heap vs.toList (x :: xs) as) (ha : AlikeAll (x :: xs)) (hu : A.units + 1 + PyData.depthAll (x :: xs) < cLine)
    (h : ∀ (i : Nat) v h' tk, i < (x :: xs).length → vs[i]? = some v → (x :: xs).getD i .none = minD x xs → (∀ b o, s.heap.get? b = some o → h'.get? b = some o) → Q v { s with heap := h', toks := tk }) :
    wpAny (model prog w) A (call (.builtin "min") [.ref l]) Q E s := by
  have hn : vs.size = xs.length + 1 := readsAll_len hr
  refine call_min_walkH (iter_listW (A := A.in1) hh hl fun s₂ e W st hfp hw hk => ?_)
  refine ⟨_, _, _, _, _, _, _, s.heap, _, rfl, W, st, hfp, by omega, hw, hk, cmpIn_lt (A := A.in1) hr ha (by show A.units + 1 + _ < _; exact hu), fun v s' hP m => ?_⟩
  obtain ⟨h', tk, rfl, hk'⟩ := moved_old e rfl m
  have e1 : vs.size - 1 = xs.length := by omega
  obtain ⟨e0, e2⟩ := argBest_fold dataLt PyData.none x xs xs.length (Nat.le_refl _)
  rw [List.take_length] at e2
  rw [e1] at hP
  exact h _ v h' tk (Nat.lt_succ_of_le e0) hP e2 hk'
end
end PySem.W
namespace Oa
open PySem PySem.Spec PyProof.Rows L2 Oat
/-! ### rows as data -/
def rowD (e : Int × List Nat) : PyData := .tuple [.int e.1, .tuple (e.2.map fun (n : Nat) => .int (n : Int))]
theorem alikeAll_ints : ∀ (xs ys : List Nat), PySem.W.alikeAll (xs.map fun (n : Nat) => .int (n : Int)) (ys.map fun (n : Nat) => .int (n : Int)) = true
  | [], ys => by cases ys <;> simp [PySem.W.alikeAll]
  | _ :: _, [] => by simp [PySem.W.alikeAll]
  | x :: xs, y :: ys => by
    simp only [List.map_cons, PySem.W.alikeAll, PySem.W.alike, Bool.true_and]
    exact alikeAll_ints xs ys
theorem alike_row (a b : Int × List Nat) : PySem.W.alike (rowD a) (rowD b) = true := by
  unfold rowD
  simp only [PySem.W.alike, PySem.W.alikeAll, Bool.true_and, Bool.and_true]
  exact alikeAll_ints _ _
theorem eqvAll_ints : ∀ (xs ys : List Nat), PyData.eqvAll (xs.map fun (n : Nat) => .int (n : Int)) (ys.map fun (n : Nat) => .int (n : Int)) = decide (xs = ys)
  | [], [] => by simp [PyData.eqvAll]
  | [], _ :: _ => by simp [PyData.eqvAll]
  | _ :: _, [] => by simp [PyData.eqvAll]
  | x :: xs, y :: ys => by
    simp only [List.map_cons, PyData.eqvAll, PyData.eqv]
    rw [eqvAll_ints xs ys, Bool.eq_iff_iff]
    simp only [Bool.and_eq_true, beq_iff_eq, decide_eq_true_eq, List.cons.injEq]
    exact ⟨fun h => ⟨by omega, h.2⟩, fun h => ⟨by rw [h.1], h.2⟩⟩
theorem lt_lexN : ∀ (xs ys : List Nat), decide ((xs.map fun (n : Nat) => (n : Int)) < (ys.map fun (n : Nat) => (n : Int))) = lexN xs ys
  | [], [] => by simp [lexN]
  | [], _ :: _ => by simp [lexN]
  | _ :: _, [] => by simp [lexN]
  | x :: xs, y :: ys => by
    simp only [List.map_cons, lexN]
    by_cases e : x = y
    · subst e
      rw [if_pos rfl, ← lt_lexN xs ys, Bool.eq_iff_iff, decide_eq_true_eq, decide_eq_true_eq]
      exact ⟨fun h => by simpa using h, fun h => by simpa using h⟩
    · rw [if_neg e, Bool.eq_iff_iff, decide_eq_true_eq, decide_eq_true_eq, List.cons_lt_cons_iff]
      exact ⟨fun h => by omega, fun h => .inl (by omega)⟩
theorem lex_ints (xs ys : List Nat) : PyProof.Rows.lexLt itemOrd (PySem.W.keyToksAll (xs.map fun (n : Nat) => .int (n : Int))) (PySem.W.keyToksAll (ys.map fun (n : Nat) => .int (n : Int))) = lexN xs ys := by
  have h := PySem.W.dataLt_ints (xs.map fun (n : Nat) => (n : Int)) (ys.map fun (n : Nat) => (n : Int))
  unfold PySem.W.rowLt at h
  rw [List.map_map, List.map_map] at h
  exact Eq.trans h (lt_lexN xs ys)
theorem lt_row (a b : Int × List Nat) : PySem.W.dataLt (rowD a) (rowD b) = rlt a b := by
  unfold rowD
  rw [PySem.W.dataLt_pair (by simp [PySem.W.alike]) (by simp only [PySem.W.alike]; exact alikeAll_ints _ _), PySem.W.dataLt_int]
  unfold rlt
  have e1 : PyData.eqv (.int a.1) (.int b.1) = decide (a.1 = b.1) := by
    simp only [PyData.eqv]
    rw [Bool.eq_iff_iff, beq_iff_eq, decide_eq_true_eq]
  rw [e1]
  by_cases h : a.1 = b.1
  · rw [if_pos (decide_eq_true h), if_pos h]
    have e2 : PyData.eqv (.tuple (a.2.map fun (n : Nat) => .int (n : Int))) (.tuple (b.2.map fun (n : Nat) => .int (n : Int))) = decide (a.2 = b.2) := by
      simp only [PyData.eqv]
      exact eqvAll_ints _ _
    rw [e2, PySem.W.dataLt_tuple, lex_ints]
    by_cases h2 : a.2 = b.2
    · rw [if_pos (decide_eq_true h2), h2]
      have : ∀ l : List Nat, lexN l l = false := fun l => by
        induction l with
        | nil => rfl
        | cons x l ih => simp [lexN, ih]
      exact (this _).symm
    · rw [if_neg (by simpa using h2)]
  · rw [if_neg (by simpa using h), if_neg h]

theorem alikeAll_rows (es : List (Int × List Nat)) : PySem.W.AlikeAll (es.map rowD) := by
  refine ⟨fun x hx y hy => ?_, fun x hx => ?_⟩
  · obtain ⟨a, _, rfl⟩ := List.mem_map.mp hx
    obtain ⟨b, _, rfl⟩ := List.mem_map.mp hy
    exact alike_row a b
  · obtain ⟨a, _, rfl⟩ := List.mem_map.mp hx
    exact fun z => nomatch z
theorem depth_ints : ∀ xs : List Nat, PyData.depthAll (xs.map fun (n : Nat) => .int (n : Int)) ≤ 1
  | [] => by simp [PyData.depthAll]
  | x :: xs => by
    have := depth_ints xs
    simp only [List.map_cons, PyData.depthAll, PyData.depth]
    omega
theorem depth_row (e : Int × List Nat) : (rowD e).depth ≤ 4 := by
  unfold rowD
  have := depth_ints e.2
  simp only [PyData.depth, PyData.depthAll]
  omega
theorem depth_rows : ∀ es : List (Int × List Nat), PyData.depthAll (es.map rowD) ≤ 4
  | [] => by simp [PyData.depthAll]
  | e :: es => by
    have := depth_rows es
    have := depth_row e
    simp only [List.map_cons, PyData.depthAll]
    omega
theorem minD_rows (e : Int × List Nat) (es : List (Int × List Nat)) : PySem.W.minD (rowD e) (es.map rowD) = rowD (es.foldl rmin e) := by
  unfold PySem.W.minD
  induction es generalizing e with
  | nil => rfl
  | cons x es ih =>
    rw [List.map_cons, List.foldl_cons, List.foldl_cons, lt_row]
    have : (if rlt x e = true then rowD x else rowD e) = rowD (rmin e x) := by
      unfold rmin
      split <;> rfl
    rw [this]
    exact ih _
theorem dpAll_rows {K : PySem.W.Frag} {H : Hp} : ∀ {xs : List V} {es : List (Int × List Nat)}, Paired (fun v e => Dp K H v (rowD e)) xs es → DpAll K H xs (es.map rowD)
  | _, _, .nil => .nil
  | _, _, .cons a b => .cons a (dpAll_rows b)
theorem rowD_inj {a b : Int × List Nat} (h : rowD a = rowD b) : a = b := by
  unfold rowD at h
  injection h with h
  injection h with h1 h2
  injection h1 with h1
  injection h2 with h2 _
  injection h2 with h2
  have e : a.2 = b.2 := by
    have : ∀ xs ys : List Nat, (xs.map fun (n : Nat) => PyData.int (n : Int)) = (ys.map fun (n : Nat) => PyData.int (n : Int)) → xs = ys := by
      intro xs
      induction xs with
      | nil => intro ys h; cases ys with | nil => rfl | cons y ys => cases h
      | cons x xs ih =>
        intro ys h
        cases ys with
        | nil => cases h
        | cons y ys =>
          simp only [List.map_cons] at h
          injection h with h1 h2
          injection h1 with h1
          rw [ih ys h2, show x = y by omega]
    exact this _ _ h2
  exact Prod.ext h1 e
section
variable {X : Cx}
/-- min(a, b) of two rows -/
def rMin2R (K : PySem.W.Frag) : List V → Hp → VK → Prop := fun vs H Q => ∃ x y a b, vs = [x, y] ∧ Dp K H x (rowD a) ∧ Dp K H y (rowD b) ∧ Q (if rlt b a = true then y else x) H
theorem min2R (K : PySem.W.Frag) (hc : X.calm = true) (hu : X.A.units + 64 < cLine) (h : X.K = K := by rfl) : CallR X (.builtin "min") (rMin2R K) := by
  subst h
  intro pins s σ H vs us Q I r h
  obtain ⟨x, y, a, b, rfl, ha, hb, q⟩ := h
  obtain ⟨u, w', rfl, r1, r2⟩ := vals2 r
  obtain ⟨as, h1⟩ := Dp.reads I _ _ _ ha r1
  obtain ⟨bs, h2⟩ := Dp.reads I _ _ _ hb r2
  have d := depth_rows [a, b]
  refine PySem.W.oa_min_data (I.ok.hd hc) h1 h2 (alikeAll_rows [a, b]) (by have : PyData.depthAll [rowD a, rowD b] ≤ 4 := d; omega) fun h' tk k => ⟨_, H, I.kept k, ?_, q⟩
  rw [lt_row]
  split
  · exact r2
  · exact r1
/-- min(xs) of a list of rows -/
def rMinLR (K : PySem.W.Frag) : List V → Hp → VK → Prop := fun vs H Q => ∃ p xs e es, vs = [.ref p] ∧ SqL K H p xs ∧ Paired (fun v e => Dp K H v (rowD e)) xs (e :: es) ∧ ∀ v, Dp K H v (rowD (es.foldl rmin e)) → Q v H
theorem minLR (K : PySem.W.Frag) (hc : X.calm = true) (hu : X.A.units + 64 < cLine) (h : X.K = K := by rfl) : CallR X (.builtin "min") (rMinLR K) := by
  subst h
  intro pins s σ H vs us Q I r h
  obtain ⟨p, xs, e, es, rfl, hs, hp, q⟩ := h
  obtain ⟨its, rv, hl, _⟩ := I.list hs
  rw [Vals.ref1 r]
  obtain ⟨as, hr⟩ := Dp.readsAll I _ _ _ (dpAll_rows hp) rv
  have d := depth_rows (e :: es)
  refine PySem.W.oa_min_list (vs := its.toArray) (x := rowD e) (xs := es.map rowD) (I.ok.hd hc) hl.isList (by simpa using hr) (alikeAll_rows (e :: es)) (by have : PyData.depthAll (rowD e :: es.map rowD) ≤ 4 := d; omega) fun i v h' tk hi hv hm k => ?_
  have hv' : its[i]? = some v := by simpa using hv
  have hi' : i < xs.length := by
    rw [Paired.length hp]
    simpa using hi
  obtain ⟨u, hu', ru⟩ := Vals.get rv (List.getElem?_eq_getElem hi')
  have : u = v := Option.some.inj (hu'.symm.trans hv')
  subst this
  have hd : Dp X.K H xs[i] (rowD ((e :: es).getD i (0, []))) := by
    have : ∀ {xs : List V} {es : List (Int × List Nat)}, Paired (fun v e => Dp X.K H v (rowD e)) xs es → ∀ (i : Nat) (h : i < xs.length), Dp X.K H xs[i] (rowD (es.getD i (0, []))) := by
      intro xs es hp
      induction hp with
      | nil => intro i h; exact absurd h (Nat.not_lt_zero _)
      | cons a b ih =>
        intro i h
        cases i with
        | zero => exact a
        | succ i => exact ih i (by simpa using h)
    exact this hp i hi'
  have eg : (rowD e :: es.map rowD).getD i .none = rowD ((e :: es).getD i (0, [])) := by
    have hl' : i < (e :: es).length := by simpa using hi
    rw [← List.map_cons, List.getD_eq_getElem?_getD, List.getElem?_map, List.getD_eq_getElem?_getD, List.getElem?_eq_getElem hl']
    rfl
  rw [eg, minD_rows] at hm
  rw [hm] at hd
  exact ⟨_, H, I.kept k, ru, q _ hd⟩
/-- a < b of two rows -/
def rLtR (K : PySem.W.Frag) : R2 := fun x y H Q => ∃ a b, Dp K H x (rowD a) ∧ Dp K H y (rowD b) ∧ Q (.bl (rlt a b)) H
end
end Oa
namespace Oa
open PySem PySem.Spec PyProof.Rows L2 Oat
section
variable {X : Cx}
/-! ### a dict beside an empty one; rows compared -/
def rEqE : R2 := fun x y H Q => ∃ a b ks, x = .ref a ∧ y = .ref b ∧ H a = some (.dK ks) ∧ H b = some (.dK []) ∧ Q (.bl ks.isEmpty) H
def rNeE : R2 := fun x y H Q => ∃ a b ks, x = .ref a ∧ y = .ref b ∧ H a = some (.dK ks) ∧ H b = some (.dK []) ∧ Q (.bl (!ks.isEmpty)) H
theorem op_eqE (hu : X.A.units < cLine) : OpR X (compareOp .Eq) rEqE := by
  intro pins s σ H x y v u Q I rx ry h
  obtain ⟨a, b, ks, rfl, rfl, ea, eb, q⟩ := h
  obtain rfl : v = Value.ref a := rx
  obtain rfl : u = Value.ref b := ry
  obtain ⟨_, ya, va, ra, da⟩ := (show ObjOk X.prog X.w H s.heap a (.dK ks) from I.hok a _ ea)
  obtain ⟨_, yb, vb, rb, db⟩ := (show ObjOk X.prog X.w H s.heap b (.dK []) from I.hok b _ eb)
  cases rb
  refine PySem.W.keq_eq (knd := mixKind X.prog X.w) (r := true) ya yb da db hu (fun e => ?_) (fin_bl I q ?_)
  · cases va with
    | nil => exact .nil
    | cons p r => cases e
  · cases ra <;> simp
theorem op_neE (hu : X.A.units < cLine) : OpR X (compareOp .NotEq) rNeE := by
  intro pins s σ H x y v u Q I rx ry h
  obtain ⟨a, b, ks, rfl, rfl, ea, eb, q⟩ := h
  obtain rfl : v = Value.ref a := rx
  obtain rfl : u = Value.ref b := ry
  obtain ⟨_, ya, va, ra, da⟩ := (show ObjOk X.prog X.w H s.heap a (.dK ks) from I.hok a _ ea)
  obtain ⟨_, yb, vb, rb, db⟩ := (show ObjOk X.prog X.w H s.heap b (.dK []) from I.hok b _ eb)
  cases rb
  refine PySem.W.keq_ne (knd := mixKind X.prog X.w) (r := true) ya yb da db hu (fun e => ?_) (fin_bl I q ?_)
  · cases va with
    | nil => exact .nil
    | cons p r => cases e
  · cases ra <;> simp
/-! ### a list beside an empty one -/
def rEqLE (K : PySem.W.Frag) : R2 := fun x y H Q => ∃ a b xs, x = .ref a ∧ y = .ref b ∧ SqL K H a xs ∧ SqL K H b [] ∧ Q (.bl xs.isEmpty) H
def rNeLE (K : PySem.W.Frag) : R2 := fun x y H Q => ∃ a b xs, x = .ref a ∧ y = .ref b ∧ SqL K H a xs ∧ SqL K H b [] ∧ Q (.bl (!xs.isEmpty)) H
theorem op_eqLE (K : PySem.W.Frag) (hu : X.A.units < cLine) (h : X.K = K := by rfl) : OpR X (compareOp .Eq) (rEqLE K) := by
  subst h
  intro pins s σ H x y v u Q I rx ry h
  obtain ⟨a, b, xs, rfl, rfl, ha, hb, q⟩ := h
  obtain rfl : v = Value.ref a := rx
  obtain rfl : u = Value.ref b := ry
  obtain ⟨its, r1, p1, _⟩ := I.list ha
  obtain ⟨its2, r2, p2, _⟩ := I.list hb
  cases r2
  cases r1 with
  | nil => exact SeqAt.eq_listAt (e := fun _ => true) p1.isList p2.isList rfl hu (fun j h1 _ => absurd h1 (Nat.not_lt_zero j)) (fin_bl I q rfl)
  | cons _ _ => exact SeqAt.eq_list_lengthsAt p1.isList p2.isList rfl hu (fin_bl I q rfl)
theorem op_neLE (K : PySem.W.Frag) (hu : X.A.units < cLine) (h : X.K = K := by rfl) : OpR X (compareOp .NotEq) (rNeLE K) := by
  subst h
  intro pins s σ H x y v u Q I rx ry h
  obtain ⟨a, b, xs, rfl, rfl, ha, hb, q⟩ := h
  obtain rfl : v = Value.ref a := rx
  obtain rfl : u = Value.ref b := ry
  obtain ⟨its, r1, p1, _⟩ := I.list ha
  obtain ⟨its2, r2, p2, _⟩ := I.list hb
  cases r2
  cases r1 with
  | nil => exact SeqAt.RcNeAt.lists (e := fun _ => true) p1.isList p2.isList rfl hu (fun j h1 _ => absurd h1 (Nat.not_lt_zero j)) _ _ _ _ (fin_bl I q rfl)
  | cons _ _ => exact SeqAt.RcNeAt.lists_lengths p1.isList p2.isList rfl hu _ _ _ _ (fin_bl I q rfl)
theorem op_ltR (K : PySem.W.Frag) (hu : X.A.units + 64 < cLine) (h : X.K = K := by rfl) : OpR X (compareOp .Lt) (rLtR K) := by
  subst h
  intro pins s σ H x y v u Q I rx ry h
  obtain ⟨a, b, ha, hb, q⟩ := h
  obtain ⟨as, h1⟩ := Dp.reads I _ _ _ ha rx
  obtain ⟨bs, h2⟩ := Dp.reads I _ _ _ hb ry
  have d := depth_row a
  refine PySem.W.rcLt_alike _ _ X.A s v u _ _ h1 h2 (alike_row a b) (fun z => nomatch z) (by have := Nat.min_le_left (rowD a).depth (rowD b).depth; omega) X.prog X.w _ _ (fin_bl I q ?_)
  exact (lt_row a b).symm
end
/-! ### dicts with whole keys, by their mirror -/
abbrev PairD {α : Type} (R : V → α → Prop) (kvs : List (Key × V)) (F : List (Nat × α)) : Prop := Paired (fun (kv : Key × V) (e : Nat × α) => kv.1 = Sum.inl ((e.1 : Nat) : Int) ∧ R kv.2 e.2) kvs F
theorem keyNat {a b : Nat} : (Sum.inl ((a : Nat) : Int) : Key) = Sum.inl ((b : Nat) : Int) ↔ a = b := by
  constructor
  · intro h
    have := Sum.inl.inj h
    omega
  · rintro rfl; rfl
section
variable {α : Type} {R : V → α → Prop}
theorem pd_imp {S : V → α → Prop} {kvs : List (Key × V)} {F : List (Nat × α)} (h : PairD R kvs F) (f : ∀ v e, R v e → S v e) : PairD S kvs F := paired_imp h fun _ _ q => ⟨q.1, f _ _ q.2⟩
theorem pd_get : ∀ {kvs : List (Key × V)} {F : List (Nat × α)} (k : Nat), PairD R kvs F → (dget F k = none → valV kvs (Sum.inl ((k : Nat) : Int)) = none) ∧ (∀ e, dget F k = some e → ∃ v, valV kvs (Sum.inl ((k : Nat) : Int)) = some v ∧ R v e)
  | _, _, k, .nil => ⟨fun _ => rfl, fun e h => by cases h⟩
  | (j, u) :: kvs, (i, a) :: F, k, .cons h t => by
    obtain ⟨h1, h2⟩ := h
    have h1 : j = Sum.inl ((i : Nat) : Int) := h1
    subst h1
    have ih := pd_get k t
    by_cases e : i = k
    · subst e
      refine ⟨fun z => ?_, fun b z => ?_⟩
      · simp [dget] at z
      · simp only [dget, if_true] at z
        have z := Option.some.inj z
        subst z
        exact ⟨u, valV_pos (p := (Sum.inl ((i : Nat) : Int), u)) rfl, h2⟩
    · have e2 : ¬ ((Sum.inl ((i : Nat) : Int), u) : Key × V).1 = Sum.inl ((k : Nat) : Int) := fun z => e (keyNat.mp z)
      rw [valV_neg e2]
      simp only [dget, if_neg e]
      exact ih
theorem pd_any : ∀ {kvs : List (Key × V)} {F : List (Nat × α)} (k : Nat), PairD R kvs F → (kvs.any fun kv => decide (kv.1 = Sum.inl ((k : Nat) : Int))) = (dget F k).isSome
  | kvs, F, k, h => by
    rw [valV_any]
    have g := pd_get k h
    cases e : dget F k with
    | none => rw [g.1 e]; rfl
    | some a =>
      obtain ⟨v, hv, _⟩ := g.2 a e
      rw [hv]; rfl
theorem dput_in {F : List (Nat × α)} {k : Nat} {a : α} (h : (F.map (·.1)).Nodup) (hk : (dget F k).isSome = true) : dput F k a = F.map (fun x => if x.1 = k then (x.1, a) else x) := by
  induction F with
  | nil => cases hk
  | cons x F ih =>
    obtain ⟨i, b⟩ := x
    have h : (i :: F.map (·.1)).Nodup := h
    obtain ⟨h1, h2⟩ := List.nodup_cons.mp h
    by_cases e : i = k
    · subst e
      simp only [dput, if_true, List.map_cons]
      congr 1
      have : ∀ x ∈ F, (if x.1 = i then (x.1, a) else x) = x := fun x hx => if_neg fun z => h1 (List.mem_map.mpr ⟨x, hx, z⟩)
      rw [List.map_congr_left this]
      simp
    · simp only [dput, if_neg e, List.map_cons]
      congr 1
      refine ih h2 ?_
      simpa [dget, e] using hk
theorem dput_out {F : List (Nat × α)} {k : Nat} {a : α} (hk : dget F k = none) : dput F k a = F ++ [(k, a)] := by
  induction F with
  | nil => rfl
  | cons x F ih =>
    obtain ⟨i, b⟩ := x
    by_cases e : i = k
    · simp [dget, e] at hk
    · simp only [dput, if_neg e, List.cons_append]
      rw [ih (by simpa [dget, e] using hk)]
theorem pd_put {kvs : List (Key × V)} {F : List (Nat × α)} {k : Nat} {v : V} {a : α} (nd : (F.map (·.1)).Nodup) (h : PairD R kvs F) (r : R v a) : PairD R (putK kvs (Sum.inl ((k : Nat) : Int)) v) (dput F k a) := by
  have e := pd_any k h
  unfold putK
  cases z : (dget F k).isSome with
  | true =>
    rw [e, z, if_pos rfl, dput_in nd z]
    clear e z nd
    have : ∀ {kvs : List (Key × V)} {F : List (Nat × α)}, PairD R kvs F → PairD R (kvs.map fun kv => if kv.1 = Sum.inl ((k : Nat) : Int) then (kv.1, v) else kv) (F.map fun x => if x.1 = k then (x.1, a) else x) := by
      intro kvs F h
      induction h with
      | nil => exact .nil
      | @cons p x ps xs h t ih =>
        obtain ⟨h1, h2⟩ := h
        refine .cons ?_ ih
        show (if p.1 = Sum.inl ((k : Nat) : Int) then (p.1, v) else p).1 = Sum.inl (((if x.1 = k then (x.1, a) else x).1 : Nat) : Int) ∧ R (if p.1 = Sum.inl ((k : Nat) : Int) then (p.1, v) else p).2 (if x.1 = k then (x.1, a) else x).2
        by_cases c : x.1 = k
        · have c2 : p.1 = Sum.inl ((k : Nat) : Int) := by rw [h1, c]
          rw [if_pos c2, if_pos c]
          exact ⟨h1, r⟩
        · have c2 : ¬ p.1 = Sum.inl ((k : Nat) : Int) := by rw [h1]; exact fun z => c (keyNat.mp z)
          rw [if_neg c2, if_neg c]
          exact ⟨h1, h2⟩
    exact this h
  | false =>
    rw [e, z, if_neg Bool.false_ne_true, dput_out (by cases q : dget F k with | none => rfl | some a => rw [q] at z; cases z)]
    exact paired_snoc h ⟨rfl, r⟩
theorem dput_keys (F : List (Nat × α)) (k : Nat) (a : α) (nd : (F.map (·.1)).Nodup) : ((dput F k a).map (·.1)).Nodup := by
  cases z : dget F k with
  | some b =>
    rw [dput_in nd (by rw [z]; rfl), List.map_map]
    have : ((fun x : Nat × α => x.1) ∘ fun x => if x.1 = k then (x.1, a) else x) = fun x => x.1 := by
      funext x
      show (if x.1 = k then (x.1, a) else x).1 = x.1
      split <;> rfl
    rw [this]
    exact nd
  | none =>
    rw [dput_out z, List.map_append]
    refine nd_snoc nd fun m => ?_
    obtain ⟨x, hx, e⟩ := List.mem_map.mp m
    have : ∀ {F : List (Nat × α)}, x ∈ F → dget F k ≠ none := by
      intro F
      induction F with
      | nil => intro h; cases h
      | cons y F ih =>
        intro h
        obtain ⟨i, b⟩ := y
        by_cases c : i = k
        · simp [dget, c]
        · simp only [dget, if_neg c]
          rcases List.mem_cons.mp h with h | h
          · subst h
            exact absurd e c
          · exact ih h
    exact this hx z
theorem dget_at : ∀ {F : List (Nat × α)} {i k : Nat} {a : α}, (F.map (·.1)).Nodup → F[i]? = some (k, a) → dget F k = some a
  | [], i, _, _, _, h => by simp at h
  | (j, b) :: F, 0, k, a, _, h => by
    have h := Option.some.inj h
    injection h with h1 h2
    simp [dget, h1, h2]
  | (j, b) :: F, i + 1, k, a, nd, h => by
    have nd : (j :: F.map (·.1)).Nodup := nd
    obtain ⟨h1, h2⟩ := List.nodup_cons.mp nd
    have h : F[i]? = some (k, a) := by simpa using h
    have : j ≠ k := fun e => h1 (by
      rw [e]
      exact List.mem_map.mpr ⟨(k, a), List.mem_of_getElem? h, rfl⟩)
    simp only [dget, if_neg this]
    exact dget_at h2 h
theorem pd_len {kvs : List (Key × V)} {F : List (Nat × α)} (h : PairD R kvs F) : kvs.length = F.length := Paired.length h
theorem pd_at : ∀ {kvs : List (Key × V)} {F : List (Nat × α)} {i : Nat} {k : Key} {v : V}, PairD R kvs F → kvs[i]? = some (k, v) → ∃ n a, F[i]? = some (n, a) ∧ k = Sum.inl ((n : Nat) : Int) ∧ R v a
  | _, _, i, _, _, .nil, h => by simp at h
  | _, _, 0, k, v, .cons (b := y) q _, h => by
    have h := Option.some.inj h
    subst h
    exact ⟨y.1, y.2, rfl, q.1, q.2⟩
  | _, _, i + 1, k, v, .cons _ t, h => by
    obtain ⟨n, a, h1, h2, h3⟩ := pd_at (i := i) t (by simpa using h)
    exact ⟨n, a, by simpa using h1, h2, h3⟩
end
/-! ### tuples stay -/
def TExt (H H' : Hp) : Prop := ∀ a xs, Rd H a (.tup xs) → Rd H' a (.tup xs)
theorem TExt.refl (H : Hp) : TExt H H := fun _ _ h => h
theorem TExt.trans {H H1 H2 : Hp} (a : TExt H H1) (b : TExt H1 H2) : TExt H H2 := fun c o h => b c o (a c o h)
theorem Ext.tx {H H' : Hp} (e : Ext H H') : TExt H H' := fun a xs h => e a _ nf_t h
theorem same_tx {H H' : Hp} (e : Same H H') : TExt H H' := (ext_of e).tx
theorem TExt.t {K : PySem.W.Frag} {H H' : Hp} {a : Addr} {xs : List V} (e : TExt H H') (h : SqT K H a xs) : SqT K H' a xs := by
  rcases h with h | h
  · exact .inl (e _ _ h)
  · exact .inr h
def NoTup (o : Option HO) : Prop := match o with
  | some (.tup _) => False
  | some (.frz _ (.tup _)) => False
  | _ => True
theorem tx_upd {H : Hp} {d : Addr} {o : HO} (h : NoTup (H d)) : TExt H (upd H d o) := fun a xs r => by
  have hne : a ≠ d := by
    rintro rfl
    rcases r with r | ⟨ob, r⟩
    · rw [r] at h
      exact h
    · rw [r] at h
      exact h
  rcases r with r | ⟨ob, r⟩
  · exact .inl (by rw [upd_ne hne]; exact r)
  · exact .inr ⟨ob, by rw [upd_ne hne]; exact r⟩
/-- a row (sum, parting) as it lies -/
def RowAt (K : PySem.W.Frag) (H : Hp) (v : V) (e : Int × List Nat) : Prop := ∃ p q, v = .ref p ∧ SqT K H p [.int e.1, .ref q] ∧ SqT K H q (e.2.map fun (n : Nat) => V.int (n : Int))
theorem RowAt.tx {K : PySem.W.Frag} {H H' : Hp} {v : V} {e : Int × List Nat} (h : RowAt K H v e) (x : TExt H H') : RowAt K H' v e := by
  obtain ⟨p, q, r, h1, h2⟩ := h
  exact ⟨p, q, r, x.t h1, x.t h2⟩
theorem dpAll_ints {K : PySem.W.Frag} {H : Hp} : ∀ l : List Nat, DpAll K H (l.map fun (n : Nat) => V.int (n : Int)) (l.map fun (n : Nat) => .int (n : Int))
  | [] => .nil
  | _ :: l => .cons (.int _) (dpAll_ints l)
theorem RowAt.dp {K : PySem.W.Frag} {H : Hp} {v : V} {e : Int × List Nat} (h : RowAt K H v e) : Dp K H v (rowD e) := by
  obtain ⟨p, q, rfl, h1, h2⟩ := h
  exact .tup h1 (.cons (.int _) (.cons (.tup h2 (dpAll_ints _)) .nil))
theorem rowAt_dp {K : PySem.W.Frag} {H : Hp} {v : V} {e : Int × List Nat} (h : Dp K H v (rowD e)) : RowAt K H v e := by
  unfold rowD at h
  cases h with
  | tup h1 hs =>
    cases hs with
    | cons a hs =>
      cases hs with
      | cons b hs =>
        cases hs
        cases a
        cases b with
        | tup h2 hi =>
          refine ⟨_, _, rfl, h1, ?_⟩
          have : ∀ {l : List Nat} {vs : List V}, DpAll K H vs (l.map fun (n : Nat) => .int (n : Int)) → vs = l.map fun (n : Nat) => V.int (n : Int) := by
            intro l
            induction l with
            | nil => intro vs h; cases h; rfl
            | cons x l ih =>
              intro vs h
              cases h with
              | cons a b =>
                cases a
                rw [ih b]
                rfl
          rw [← this hi]
          exact h2
end Oa
namespace Oa
open PySem PySem.Spec PyProof.Rows L2
def topS (i : Nat) : Stmt := PySem.Challenge.pw_oatroads_k02_whole_searched.main.body.getD i (.Pass ⟨0, 0, 0, 0⟩)
abbrev c_OatError : Stmt := topS 1
abbrev c_BadLand : Stmt := topS 2
abbrev c_BadWorks : Stmt := topS 3
abbrev c_BadWants : Stmt := topS 4
abbrev s_is_whole : Stmt := topS 5
abbrev s_is_land : Stmt := topS 11
abbrev s_is_works : Stmt := topS 12
abbrev s_is_wants : Stmt := topS 13
abbrev s_look_land : Stmt := topS 14
abbrev s_look_works : Stmt := topS 15
abbrev s_look_case : Stmt := topS 16
abbrev s_beyond : Stmt := topS 17
abbrev s_going_out : Stmt := topS 19
abbrev s_best_parting : Stmt := topS 20
abbrev s_own_need : Stmt := topS 21
abbrev s_is_called : Stmt := topS 22
abbrev s_tables_of : Stmt := topS 23
abbrev s_taken_for : Stmt := topS 24
abbrev s_best_left : Stmt := topS 25
abbrev s_least_of : Stmt := topS 26
abbrev s_least : Stmt := topS 27
abbrev s__law_town : Stmt := topS 29
abbrev s__law_draw : Stmt := topS 30
abbrev s__law_pick : Stmt := topS 31
abbrev s__law_land : Stmt := topS 32
abbrev s__law_after : Stmt := topS 33
abbrev s__law_is_wanted : Stmt := topS 34
abbrev s__law_best : Stmt := topS 35
abbrev s__law_table : Stmt := topS 36
abbrev s__law_out : Stmt := topS 37
abbrev s__law_least : Stmt := topS 38
abbrev s__law_moves : Stmt := topS 39
abbrev s__law_good : Stmt := topS 40
abbrev s__law_searched : Stmt := topS 41
abbrev s_law : Stmt := topS 42
theorem sc_is_whole : FnScope ["thing", "low", "high"] ["thing", "low", "high"] (defScope s_is_whole) := ⟨rfl, rfl, rfl, by decide +kernel, rfl, by decide +kernel, by decide +kernel⟩
theorem sc_is_land : FnScope ["thing", "k"] ["thing"] (defScope s_is_land) := ⟨rfl, rfl, rfl, by decide +kernel, rfl, by decide +kernel, by decide +kernel⟩
theorem sc_is_works : FnScope ["thing"] ["thing"] (defScope s_is_works) := ⟨rfl, rfl, rfl, by decide +kernel, rfl, by decide +kernel, by decide +kernel⟩
theorem sc_is_wants : FnScope ["land", "thing", "one"] ["land", "thing"] (defScope s_is_wants) := ⟨rfl, rfl, rfl, by decide +kernel, rfl, by decide +kernel, by decide +kernel⟩
theorem sc_look_land : FnScope ["land"] ["land"] (defScope s_look_land) := ⟨rfl, rfl, rfl, by decide +kernel, rfl, by decide +kernel, by decide +kernel⟩
theorem sc_look_works : FnScope ["works", "left"] ["works", "left"] (defScope s_look_works) := ⟨rfl, rfl, rfl, by decide +kernel, rfl, by decide +kernel, by decide +kernel⟩
theorem sc_look_case : FnScope ["land", "works", "wants", "left"] ["land", "works", "wants", "left"] (defScope s_look_case) := ⟨rfl, rfl, rfl, by decide +kernel, rfl, by decide +kernel, by decide +kernel⟩
theorem sc_beyond : FnScope ["land", "place", "k"] ["land", "place"] (defScope s_beyond) := ⟨rfl, rfl, rfl, by decide +kernel, rfl, by decide +kernel, by decide +kernel⟩
theorem sc_going_out : FnScope ["room", "need", "left", "times"] ["room", "need", "left"] (defScope s_going_out) := ⟨rfl, rfl, rfl, by decide +kernel, rfl, by decide +kernel, by decide +kernel⟩
theorem sc_best_parting : FnScope ["tables", "left", "found", "table", "fresh", "used", "some", "row"] ["tables", "left"] (defScope s_best_parting) := ⟨rfl, rfl, rfl, by decide +kernel, rfl, by decide +kernel, by decide +kernel⟩
theorem sc_own_need : FnScope ["place", "wants", "tables", "left", "best"] ["place", "wants", "tables", "left"] (defScope s_own_need) := ⟨rfl, rfl, rfl, by decide +kernel, rfl, by decide +kernel, by decide +kernel⟩
theorem sc_is_called : FnScope ["land", "wants", "place", "called", "k", "one"] ["land", "wants", "place"] (defScope s_is_called) := ⟨rfl, rfl, rfl, by decide +kernel, rfl, by decide +kernel, by decide +kernel⟩
theorem sc_tables_of : FnScope ["land", "works", "wants", "left", "place", "found", "tables", "some", "need", "row", "k"] ["land", "works", "wants", "left"] (defScope s_tables_of) := ⟨rfl, rfl, rfl, by decide +kernel, rfl, by decide +kernel, by decide +kernel⟩
theorem sc_taken_for : FnScope ["land", "works", "wants", "place", "need", "left", "times"] ["land", "works", "wants", "place", "need", "left"] (defScope s_taken_for) := ⟨rfl, rfl, rfl, by decide +kernel, rfl, by decide +kernel, by decide +kernel⟩
theorem sc_best_left : FnScope ["table", "rows", "some"] ["table"] (defScope s_best_left) := ⟨rfl, rfl, rfl, by decide +kernel, rfl, by decide +kernel, by decide +kernel⟩
theorem sc_least_of : FnScope ["land", "works", "wants", "left", "found"] ["land", "works", "wants", "left"] (defScope s_least_of) := ⟨rfl, rfl, rfl, by decide +kernel, rfl, by decide +kernel, by decide +kernel⟩
theorem sc_least : FnScope ["land", "works", "wants", "left"] ["land", "works", "wants", "left"] (defScope s_least) := ⟨rfl, rfl, rfl, by decide +kernel, rfl, by decide +kernel, by decide +kernel⟩
theorem sc__law_town : FnScope ["script"] ["script"] (defScope s__law_town) := ⟨rfl, rfl, rfl, by decide +kernel, rfl, by decide +kernel, by decide +kernel⟩
theorem sc__law_draw : FnScope ["town", "count", "numbers", "at", "cell", "mixed"] ["town", "count"] (defScope s__law_draw) := ⟨rfl, rfl, rfl, by decide +kernel, rfl, by decide +kernel, by decide +kernel⟩
theorem sc__law_pick : FnScope ["town", "some"] ["town", "some"] (defScope s__law_pick) := ⟨rfl, rfl, rfl, by decide +kernel, rfl, by decide +kernel, by decide +kernel⟩
theorem sc__law_land : FnScope ["town", "count", "found", "k"] ["town", "count"] (defScope s__law_land) := ⟨rfl, rfl, rfl, by decide +kernel, rfl, by decide +kernel, by decide +kernel⟩
theorem sc__law_after : FnScope ["land_here", "place_here", "k"] ["land_here", "place_here"] (defScope s__law_after) := ⟨rfl, rfl, rfl, by decide +kernel, rfl, by decide +kernel, by decide +kernel⟩
theorem sc__law_is_wanted : FnScope ["land_here", "wants_here", "place_here", "k"] ["land_here", "wants_here", "place_here"] (defScope s__law_is_wanted) := ⟨rfl, rfl, rfl, by decide +kernel, rfl, by decide +kernel, by decide +kernel⟩
theorem sc__law_best : FnScope ["rows", "some", "found", "table", "fresh", "used", "own", "row", "k"] ["rows", "some"] (defScope s__law_best) := ⟨rfl, rfl, rfl, by decide +kernel, rfl, by decide +kernel, by decide +kernel⟩
theorem sc__law_table : FnScope ["land_here", "works_here", "wants_here", "place_here", "most_left", "rows", "found", "some", "best", "need", "out", "k"] ["land_here", "works_here", "wants_here", "place_here", "most_left"] (defScope s__law_table) := ⟨rfl, rfl, rfl, by decide +kernel, rfl, by decide +kernel, by decide +kernel⟩
theorem sc__law_out : FnScope ["works_here", "need", "some", "out"] ["works_here", "need", "some"] (defScope s__law_out) := ⟨rfl, rfl, rfl, by decide +kernel, rfl, by decide +kernel, by decide +kernel⟩
theorem sc__law_least : FnScope ["land_here", "works_here", "wants_here", "most_left", "table", "k"] ["land_here", "works_here", "wants_here", "most_left"] (defScope s__law_least) := ⟨rfl, rfl, rfl, by decide +kernel, rfl, by decide +kernel, by decide +kernel⟩
theorem sc__law_moves : FnScope ["land_here", "works_here", "state", "spots", "loads", "stores", "called_ones", "found", "cart", "here", "near", "to", "places_on", "rest", "called_on"] ["land_here", "works_here", "state"] (defScope s__law_moves) := ⟨rfl, rfl, rfl, by decide +kernel, rfl, by decide +kernel, by decide +kernel⟩
theorem sc__law_good : FnScope ["land_here", "wants_here", "most_left", "state", "k", "one"] ["land_here", "wants_here", "most_left", "state"] (defScope s__law_good) := ⟨rfl, rfl, rfl, by decide +kernel, rfl, by decide +kernel, by decide +kernel⟩
theorem sc__law_searched : FnScope ["land_here", "works_here", "wants_here", "most_left", "bound_of", "count", "first", "seen", "layer", "cost", "later", "at", "more", "there"] ["land_here", "works_here", "wants_here", "most_left", "bound_of"] (defScope s__law_searched) := ⟨rfl, rfl, rfl, by decide +kernel, rfl, by decide +kernel, by decide +kernel⟩
theorem sc_law : FnScope ["script", "town", "works_here", "count", "most_of", "land_here", "wants_here", "most_left", "due", "searched", "k"] ["script"] (defScope s_law) := ⟨rfl, rfl, rfl, by decide +kernel, rfl, by decide +kernel, by decide +kernel⟩
structure Txt (K : PySem.W.Frag) (mg : Str → Option Value) : Prop where
  d_is_whole : Dfn K mg "is_whole" s_is_whole []
  d_is_land : Dfn K mg "is_land" s_is_land []
  d_is_works : Dfn K mg "is_works" s_is_works []
  d_is_wants : Dfn K mg "is_wants" s_is_wants []
  d_look_land : Dfn K mg "look_land" s_look_land []
  d_look_works : Dfn K mg "look_works" s_look_works []
  d_look_case : Dfn K mg "look_case" s_look_case []
  d_beyond : Dfn K mg "beyond" s_beyond []
  d_going_out : Dfn K mg "going_out" s_going_out []
  d_best_parting : Dfn K mg "best_parting" s_best_parting []
  d_own_need : Dfn K mg "own_need" s_own_need []
  d_is_called : Dfn K mg "is_called" s_is_called []
  d_tables_of : Dfn K mg "tables_of" s_tables_of []
  d_taken_for : Dfn K mg "taken_for" s_taken_for []
  d_best_left : Dfn K mg "best_left" s_best_left []
  d_least_of : Dfn K mg "least_of" s_least_of []
  d_least : Dfn K mg "least" s_least [("left", .int 0)]
  d__law_town : Dfn K mg "_law_town" s__law_town []
  d__law_draw : Dfn K mg "_law_draw" s__law_draw []
  d__law_pick : Dfn K mg "_law_pick" s__law_pick []
  d__law_land : Dfn K mg "_law_land" s__law_land []
  d__law_after : Dfn K mg "_law_after" s__law_after []
  d__law_is_wanted : Dfn K mg "_law_is_wanted" s__law_is_wanted []
  d__law_best : Dfn K mg "_law_best" s__law_best []
  d__law_table : Dfn K mg "_law_table" s__law_table []
  d__law_out : Dfn K mg "_law_out" s__law_out []
  d__law_least : Dfn K mg "_law_least" s__law_least []
  d__law_moves : Dfn K mg "_law_moves" s__law_moves []
  d__law_good : Dfn K mg "_law_good" s__law_good []
  d__law_searched : Dfn K mg "_law_searched" s__law_searched []
  d_law : Dfn K mg "law" s_law []
  b_all : mg "all" = none
  b_bool : mg "bool" = none
  b_int : mg "int" = none
  b_isinstance : mg "isinstance" = none
  b_len : mg "len" = none
  b_list : mg "list" = none
  b_max : mg "max" = none
  b_min : mg "min" = none
  b_range : mg "range" = none
  b_sorted : mg "sorted" = none
  b_tuple : mg "tuple" = none
  i_MOST_PLACES : ∃ t, mg "MOST_PLACES" = some (.int 30 t)
  i_MOST_CARTS : ∃ t, mg "MOST_CARTS" = some (.int 6 t)
  i_MOST_ROOM : ∃ t, mg "MOST_ROOM" = some (.int 20 t)
  i_MOST_WANT : ∃ t, mg "MOST_WANT" = some (.int 999 t)
end Oa
namespace Oa
open PySem PySem.Spec PyProof.Rows L2 Oat
/-- an exception object of the class cls that was raised and caught, kept as a value -/
def ExH (cls : Value) (d : Option Addr) (a : Addr) : HO := .ext fun h => ∃ (oe : Obj) (vs : Array Value), h.get? a = some oe ∧ Zc cls d oe ∧ oe.data = .fields vs
theorem exH_ok {P : Program} {w : World} {H : Hp} {h : Heap} {a : Addr} {cls : Value} {d : Option Addr} {oe : Obj} {vs : Array Value} (e : h.get? a = some oe) (z : Zc cls d oe) (hd : oe.data = .fields vs) : ObjOk P w H h a (ExH cls d a) :=
  ⟨⟨oe, vs, e, z, hd⟩, ⟨oe, e⟩, fun _ _ ⟨o, v, q, r⟩ k => ⟨o, v, k o q, r⟩⟩
section
variable {X : Cx} {pins : List (Addr × Obj)} {σ : L2.St} {H : Hp} {s : Shared}
/-- an object that stands already is tracked from now on -/
theorem inv_lay {a : Addr} {o : HO} (I : Inv X pins σ H s) (hn : H a = none) (h0 : X.s_0.heap.get? a = none) (hp : ∀ p ∈ X.pn ++ pins, p.1 ≠ a) (nL : a ≠ X.env.locals) (nC : ∀ x c, X.env.cells.lookup x = some c → c ≠ a)
    (new : ObjOk X.prog X.w (upd H a o) s.heap a o) : Inv X pins σ (upd H a o) s := by
  refine ⟨I.ok, I.os, I.bare, ⟨I.base.keep, I.base.slot, fun b u e n hb => ?_, I.base.there, fun b xs e => ?_, fun b ob u e => ?_, fun b ps e => ?_⟩, I.loc, I.cell, ?_, fun x c e => ?_, fun p hpp => ?_, fun b u e => ?_, I.len⟩
  · rw [upd_ne (fun z => by rw [z, h0] at e; cases e)]
    exact I.base.free b u e n hb
  · have := I.base.tups b xs e
    rw [upd_ne (ne_of_none this hn)]
    exact this
  · have := I.base.frzs b ob u e
    rw [upd_ne (ne_of_none this hn)]
    exact this
  · obtain ⟨m, this⟩ := I.base.tbls b ps e
    exact ⟨m, by rw [upd_ne (ne_of_none this hn)]; exact this⟩
  · rw [upd_ne nL.symm]
    exact I.free
  · rw [upd_ne (nC x c e)]
    exact I.freeC x c e
  · obtain ⟨e, n, ne, nf, d⟩ := I.pin p hpp
    exact ⟨e, by rw [upd_ne (hp p hpp)]; exact n, ne, nf, d⟩
  · by_cases hb : b = a
    · subst hb
      rw [upd_same] at e
      cases e
      exact new
    · rw [upd_ne hb] at e
      exact (I.hok b u e).stay (fun c v _ q => q) (fun c q => by rw [upd_ne (ne_of_none q hn)]; exact q) fun c xs q => by rw [upd_ne (ne_of_none q hn)]; exact q
theorem inv_suite {a : Addr} (I : Inv X pins σ H s) : Inv (X.suite a (X.pn ++ pins)) [] σ H s :=
  ⟨I.ok.suite _ _, I.os, I.bare, I.base, I.loc, I.cell, I.free, I.freeC, fun p hp => I.pin p (by rw [List.append_nil] at hp; exact hp), I.hok, I.len⟩
theorem inv_unsuite {a : Addr} {pn' : List (Addr × Obj)} (I : Inv (X.suite a (X.pn ++ pins)) pn' σ H s) (ok : X.Ok) : Inv X pins σ H s :=
  ⟨ok, I.os, I.bare, I.base, I.loc, I.cell, I.free, I.freeC, fun p hp => I.pin p (List.mem_append_left _ hp), I.hok, I.len⟩
end
/-- what the clause 'except x as n' wishes of an exception of the body: it is tracked from the suite on -/
def wKeep (K : PySem.W.Frag) (c : Value) (i : Nat) (ts : TS) (Wout : WX) (D : Ends) : WX := fun cls d σ H =>
  ∃ b, PySem.W.exmOne K cls c = some b ∧ (b = true → ∀ a, H a = none → ts { nx := fun σ' H' => D.nx (σ'.set i none) H', rt := D.rt, bk := fun σ' H' => D.bk (σ'.set i none) H', ct := fun σ' H' => D.ct (σ'.set i none) H' } (σ.set i (some (.ref a))) (upd H a (ExH cls d a))) ∧
    (b = false → Wout cls d σ H)
section
variable {X : Cx} {x n : Str} {c : Value} {i : Nat} {body suite : List Stmt} {b₀ : Stmt} {np pos pos' : Pos} {tb : WX → TS} {ts : TS} {Wout : WX}
theorem ps_try_keep (hs : X.stack = X.env :: X.outer) (hf : X.env.frame = some X.env.locals) (hex : X.ex = []) (hN : X.N.Nodup) (hi : X.N[i]? = some n) (hln : X.env.kindOf n = some .local) (hc : Names X x c) (tk : Takes X Wout)
    (hb : ∀ (W : WX) (pn : List (Addr × Obj)) (xe : Value → Shared → Prop), Takes (X.tr pn xe) W → PassesOwn (model X.prog X.w) X.A X.env xe → PSs (X.tr pn xe) body (tb W))
    (hsu : ∀ (a : Addr) (pn : List (Addr × Obj)), PSs (X.suite a pn) (b₀ :: suite) ts) :
    PS X (.Try body [.ExceptHandler (some (.Name x np)) (some n) (b₀ :: suite) pos'] [] [] pos) (fun D σ H => tb (wKeep X.K c i ts Wout D) D σ H) := by
  refine ⟨fun pins s σ H D I h => ?_⟩
  have ok := I.ok
  have hfr : X.A.frames = some (X.env :: X.outer) := by rw [ok.frames, hs]
  have hloc : Loc X.env.scope n := .inl hln
  refine wpAny_Try_except ?_
  refine wpAny_mono ((hb (wKeep X.K c i ts Wout D) (X.pn ++ pins) (fun e s₁ => wpAny (model X.prog X.w) X.A (noteFrame e X.env) (fun _ s₂ => wpAny (model X.prog X.w) X.A (setFlight e none) (fun _ s₃ =>
    wpAny (model X.prog X.w) X.A (handleBy e X.env [.ExceptHandler (some (.Name x np)) (some n) (b₀ :: suite) pos']) (SP X pins D) X.xe s₃) X.xe s₂) X.xe s₁) (fun u s' xx => ?_) PassesOwn.looking).run [] s σ H D (I.toTry _) h) (fun f s1 hsp => ?_) (fun e s1 he => he)
  · obtain ⟨a, B, sI, pins', σ', H', cls, d, rfl, J', nb, up, sky, na, os, ag, b, hb1, hyes, hno⟩ := xx
    have J : Inv X pins σ' H' sI := J'.ofTry ok
    have sky' : Sky B (X.env :: X.outer) a (Zc cls d) X.env.locals s'.heap := by rw [← hs]; exact sky
    show wpAny (model X.prog X.w) X.A (noteFrame (.ref a) X.env) _ _ _
    refine Sky.land Zc.steady hfr hf sky' fun h3 fl3 up3 => ?_
    have J3 : Inv X pins σ' H' { s' with heap := h3 } := J.landed nb fl3.1 (up.trans up3) os ag
    obtain ⟨oe3, vs3, he3, hz3, hd3⟩ := fl3.there
    have notFr : ∀ {h : Heap} {o : Obj} {vs : Array Value}, h.FunFrames B (X.env :: X.outer) → h.get? a = some o → o.data = .fields vs → a ∉ frs (X.env :: X.outer) := fun {h o vs} ff e dd hm => by
      obtain ⟨_, o', e', hnf⟩ := ff.mem hm
      rw [e] at e'; cases e'
      exact hnf _ dd
    have nfr := notFr fl3.2.2.1 he3 hd3
    have nL : a ≠ X.env.locals := fun z => nfr (List.mem_filterMap.mpr ⟨X.env, List.mem_cons_self, by rw [hf, z]⟩)
    have nF : a ∉ X.fs := fun hm => by
      obtain ⟨e, he, q⟩ := List.mem_filterMap.mp hm
      exact nfr (List.mem_filterMap.mpr ⟨e, List.mem_cons_of_mem _ he, q⟩)
    have aB : B.get? a = none := fl3.2.1
    have aI : sI.heap.get? a = none := by
      cases q : sI.heap.get? a with
      | none => rfl
      | some o =>
        have := nb a o q (by rw [hs]; exact nfr)
        rw [aB] at this
        cases this
    have a0 : X.s_0.heap.get? a = none := by
      cases q : X.s_0.heap.get? a with
      | none => rfl
      | some o =>
        obtain ⟨o', z⟩ := J.base.there a o q (by rw [hex]; exact fun z => nomatch z)
        rw [aI] at z
        cases z
    have aP : ∀ p ∈ X.pn ++ pins, p.1 ≠ a := fun p hp z => by
      have := (J.pin p hp).1
      rw [z, aI] at this
      cases this
    have S3 := J3.suite he3 hd3 na nL nF
    refine wpAny_handleBy_cons (codeAny_handlers_test ?_) (by intro q; cases q)
    have LT : PySem.W.Looks (model X.prog X.w) h3 (typeOf (.ref a)) cls := fun A Q E s k q => wpAny_typeOf_ref (k _ _ he3) (by rw [hz3.1]; exact q)
    have LM := PySem.W.exm_one (M := model X.prog X.w) (J3.kIn) LT hb1
    have test : ∀ {Q : Value → Shared → Prop} {E : Value → Shared → Prop}, Q c { s' with heap := h3 } → wpAny (model X.prog X.w) (X.A.mark (some (.ref a))) (eval (.Name x np) X.env) Q E { s' with heap := h3 } := fun {Q E} q => by
      obtain ⟨hg, hdbg, hm | ⟨hm, hv, hnn⟩⟩ := hc
      · exact ld_glob (X := X.suite a ((a, oe3) :: (X.pn ++ pins))) S3 hg hm q hdbg
      · exact ld_blt (X := X.suite a ((a, oe3) :: (X.pn ++ pins))) S3 hg hm hv q hnn hdbg
    refine test (LM.here ?_)
    cases b with
    | true =>
      refine codeAny_handlers_suite_as ?_
      refine HandSPX.lands_againZ fl3 fun h4 fl4 up4 => ?_
      have J4 : Inv X pins σ' H' { s' with heap := h4 } := J.landed nb fl4.1 ((up.trans up3).trans up4) os ag
      obtain ⟨oe4, vs4, he4, hz4, hd4⟩ := fl4.there
      have nC : ∀ x c, X.env.cells.lookup x = some c → c ≠ a := fun x c e z => by
        obtain ⟨v, o, ho, hcd⟩ := J4.cell x c e
        rw [z] at ho
        have ho : h4.get? a = some o := ho
        rw [he4] at ho
        cases ho
        rw [hd4] at hcd
        cases hcd
      have K4 : Inv X pins σ' (upd H' a (ExH cls d a)) { s' with heap := h4 } := inv_lay J4 na a0 aP nL nC (exH_ok he4 hz4 hd4)
      have S4 : Inv (X.suite a (X.pn ++ pins)) [] σ' (upd H' a (ExH cls d a)) { s' with heap := h4 } := inv_suite K4
      refine store_ok (X := X.suite a (X.pn ++ pins)) (v := .ref a) S4 hN hi hloc rfl (fun s5 S5 => ?_) (.inr hln)
      refine wpAny_mono ((hsu a (X.pn ++ pins)).run [] s5 _ _ _ S5 (hyes rfl a na)) (fun f s6 hsp => ?_) (fun _ _ z => False.elim z)
      have end_ : ∀ {σ6 : L2.St} {H6 : Hp} {Q : Shared → Prop}, Inv (X.suite a (X.pn ++ pins)) [] σ6 H6 s6 → (∀ s7, Inv X pins (σ6.set i none) H6 s7 → Q s7) →
          wpAny (model X.prog X.w) X.A (do bindName X.env n .none; unbindBehindTheSuite X.env n pos') (fun _ s7 => Q s7) X.xe s6 := fun {σ6 H6 Q} S6 hq => gone_ok (inv_unsuite S6 ok) hN hi hln hq
      cases f with
      | next =>
        obtain ⟨σ6, H6, S6, q6⟩ := hsp
        exact end_ S6 fun s7 J7 => ⟨_, _, J7, q6⟩
      | brk =>
        obtain ⟨σ6, H6, S6, q6⟩ := hsp
        exact end_ S6 fun s7 J7 => ⟨_, _, J7, q6⟩
      | cont =>
        obtain ⟨σ6, H6, S6, q6⟩ := hsp
        exact end_ S6 fun s7 J7 => ⟨_, _, J7, q6⟩
      | ret u =>
        obtain ⟨v6, σ6, H6, S6, r6, q6⟩ := hsp
        exact end_ S6 fun s7 J7 => ⟨_, _, _, J7, r6, q6⟩
    | false =>
      show wpAny _ X.A (handleBy (.ref a) X.env []) _ _ _
      refine wpAny_handleBy_nil ?_
      obtain ⟨k1, k2, k3, oe, vs, T, oT, ts', he, hz, hd, h1, hr⟩ := id fl3
      unfold PySem.passOn
      refine wpAny_bind (wpAny_field he hd h1 ?_)
      rw [if_neg (show ¬ ((Value.ref T == Value.none) = true) from by simp)]
      have fin : wpAny (model X.prog X.w) X.A (setFlight (.ref a) X.env.frame) (fun _ s4 => wpAny (model X.prog X.w) X.A (throw (.ref a) : Sem Flow) (SP X pins D) X.xe s4) X.xe { s' with heap := h3 } := by
        rw [hf]
        refine HandSPX.setFlight_upZ fl3 fun h4 hh4 up4 => wpAny_throw (tk _ _ ?_)
        exact ⟨a, B, sI, pins, σ', H', cls, d, rfl, J, nb, (up.trans up3).trans up4, .inr (.inr (by rw [hs]; exact hh4)), na, os, ag, hno rfl⟩
      first
        | exact wpAny_bind (wpAny_pure (wpAny_bind fin))
        | exact wpAny_bind fin
  · cases f with
    | next =>
      obtain ⟨σ', H', J', q⟩ := hsp
      exact wpAny_execs_nil ⟨σ', H', J'.ofTry ok, q⟩
    | brk =>
      obtain ⟨σ', H', J', q⟩ := hsp
      exact ⟨σ', H', J'.ofTry ok, q⟩
    | cont =>
      obtain ⟨σ', H', J', q⟩ := hsp
      exact ⟨σ', H', J'.ofTry ok, q⟩
    | ret u =>
      obtain ⟨v, σ', H', J', r, q⟩ := hsp
      exact ⟨v, σ', H', J'.ofTry ok, r, q⟩
/-- isinstance(e, c), e a kept exception -/
def rIsH (K : PySem.W.Frag) : List V → Hp → VK → Prop := fun xs H Q => ∃ (a D : Addr) (cl : V) (cv : Value) (b : Bool), xs = [.ref a, cl] ∧ H a = some (ExH (.ref D) none a) ∧ ExcC K D ∧ ClsV cl cv ∧ PySem.W.kitOne K (.ref D) cv = some b ∧ Q (.bl b) H
theorem isH (K : PySem.W.Frag) (h : X.K = K := by rfl) : CallR X (.builtin "isinstance") (rIsH K) := by
  subst h
  intro pins s σ H xs us Q I r h
  obtain ⟨a, D, cl, cv, b, rfl, ha, C, k, e, q⟩ := h
  obtain ⟨u1, u2, rfl, r1, r2⟩ := vals2 r
  have e2 := k.eq r2
  subst e2
  cases r1
  obtain ⟨⟨oe, vs, hget, hz, hv⟩, _, _⟩ := I.hok a _ ha
  have J : PySem.W.InstAt s.heap a oe D none := by
    obtain ⟨oc, od, oda, osl⟩ := oe
    obtain ⟨h1, h2⟩ := hz
    dsimp only at h1 h2 hv
    subst h1 h2 hv
    exact ⟨hget, rfl, rfl, trivial⟩
  exact PySem.W.kia_one (PySem.W.handS_kitx_exc C.hg C.hk C.hs C.hd C.ha C.hn C.ht C.hm) I.kIn J e (fun z => nomatch z) fun tk => ⟨.bl b, H, I.kept (t' := tk) fun _ _ z => z, rfl, q⟩
end
end Oa
namespace Oa
open PySem PySem.Spec PyProof.Rows L2 Oat
/-! ### list.count, list.index of flat items -/
section
variable {X : Cx}
def rCountF (K : PySem.W.Frag) : V → List V → Hp → VK → Prop := fun x xs H Q => ∃ (a : Addr) (ys : List V) (y : V), x = V.ref a ∧ xs = [y] ∧ SqL K H a ys ∧ flatV y = true ∧ ys.all flatV = true ∧ Q (.int ((ys.countP fun z => eqV z y : Nat) : Int)) H
theorem countP_vals {y : V} : ∀ {ys : List V} {its : List Value}, Vals ys its → ys.all flatV = true → its.countP (eqU y) = ys.countP fun z => eqV z y
  | _, _, .nil, _ => rfl
  | z :: ys, u :: its, .cons r t, f => by
    have f := Bool.and_eq_true_iff.mp (by simpa only [List.all_cons] using f)
    rw [List.countP_cons, List.countP_cons, countP_vals t f.2, eqU_of r f.1]
theorem mt_countF (K : PySem.W.Frag) (h : X.K = K := by rfl) : MtR X "list.count" (rCountF K) := by
  subst h
  intro pins s σ H x xs v us Q I rx rxs h
  obtain ⟨a, ys, y, rfl, rfl, hs, fy, fys, q⟩ := h
  cases rx
  cases rxs with
  | cons ry rt =>
    rename_i uy ut
    cases rt
    obtain ⟨its, rv, ⟨⟨cls, dd, data, sl⟩, n, ho, hc, hdn, hd⟩, hlen⟩ := I.list hs
    simp only at hc hd
    subst hc hd
    refine call_meets PySem.F.slot_list_count ⟨_, ho, rfl⟩ PySem.F.entry_list_count (PySem.F.args_list_count_2 _ _)
      (SeqAt.list_countAt a its.toArray n dd sl uy (eqU y)) ⟨ho, fun u' hu' => mem_eqAt ry fy rv fys u' (by simpa using hu'), ?_⟩
    refine ⟨.int ((ys.countP fun z => eqV z y : Nat) : Int), H, I.tok _, ⟨s.toks, ?_⟩, q⟩
    show Value.int ((its.toArray.toList.countP (eqU y) : Nat) : Int) s.toks = _
    rw [show its.toArray.toList = its from rfl, countP_vals rv fys]
theorem mt_indexK (K : PySem.W.Frag) (h : X.K = K := by rfl) : MtR X "list.index" (rIndex K) := by subst h; exact mt_index
end
/-! ### calls that may raise, wished for at the slots -/
def tCallNS (n m : Nat) (sp : Sp) (gV : List V → List V → List V) (E : L2.St → XK) (t tk : TA) : TE := fun σ H Q => t σ H fun vs H1 => tk σ H1 fun zs H2 => vs.length = n ∧ zs.length = m ∧ sp (gV vs zs) H2 Q (E σ)
section
variable {X : Cx} {CX : CXT} {k n : Nat} {f : Addr} {fd : FuncData} {ps ks : List Str} {sp : Sp} {E : L2.St → XK} {x : Str} {p pos : Pos} {e : Expr} {es : List Expr} {kws : List Keyword} {t tk : TA} {g : List Value → List Value → List Value} {gV : List V → List V → List V}
theorem run_fnNS {pins : List (Addr × Obj)} {σ : L2.St} {H : Hp} {s : Shared} {Q : VK} {us ws : List Value} {vs zs : List V} (F : FnOk X.prog X.w X.K X.mg X.base CX k f fd ps sp) (hr : Room k X.A) (hb : KBn X.K fd ps n ks g gV) (hx : PassesAt CX X σ (E σ))
    (I : Inv X pins σ H s) (r : Vals vs us) (rz : Vals zs ws) (l1 : vs.length = n) (l2 : zs.length = ks.length) (h : sp (gV vs zs) H Q (E σ)) : wpAny (model X.prog X.w) X.A (call (.ref f) us (ks.zip ws)) (EP X pins σ Q) X.xe s := by
  have r2 := hb.rel r rz
  refine wpAny_call (codeAny_mono (F.run X.A X.stack s H ⟨us, ks.zip ws⟩ (g us ws) (gV vs zs) Q (E σ) hr I.env0 (hb.to s us ws I.kIn (r.length.symm.trans l1) (rz.length.symm.trans l2)) r2 h) fun r s' hq => ?_)
  cases r with
  | error e => exact hx pins H s e s' I hq
  | ok fl =>
    cases fl with
    | ret u => exact I.after hq
    | next => exact False.elim hq
    | brk => exact False.elim hq
    | cont => exact False.elim hq
end
section
variable {X : Cx} {CX : CXT} {k n : Nat} {x kw : Str} {dv : V} {ps : List Str} {sp : Sp} {e ek : Expr} {es : List Expr} {t : TA} {te : TE} {p pos kpos : Pos} {E : L2.St → XK}
/-- f(e, .., kw = v), what is raised wished for at the slots -/
theorem pcallKS (c : CalK X.prog X.w X.K X.mg X.base CX k x ps n kw dv sp) (hr : Room k X.A) (hx : ∀ σ, PassesAt CX X σ (E σ)) (ha : PA X (e :: es) t) (hk : PE X ek te) (hg : Gl X x := by rfl)
    (hall : (backToKw pos (keywordEach [⟨some kw, ek, kpos⟩] X.env)).all (·.1.isSome) = true := by rfl) (hks : (backToKw pos (keywordEach [⟨some kw, ek, kpos⟩] X.env)).filterMap (·.1) = [kw] := by rfl)
    (hdb : (x == ("__debug__" : Str)) = false := by decide) (he : starEach (e :: es) X.env = (false, eval e X.env) :: starEach es X.env := by rfl)
    (hpl : ((backTo pos (starEach (e :: es) X.env)).any (·.1) || (backToKw pos (keywordEach [⟨some kw, ek, kpos⟩] X.env)).any (·.1.isNone)) = false := by rfl) :
    PE X (.Call (.Name x p) (e :: es) [⟨some kw, ek, kpos⟩] pos) (tCallNS n 1 sp (fun vs zs => vs ++ zs) E t (tCons te tNil)) := by
  obtain ⟨f, fd, hm, hkp, hb, _, F⟩ := c
  refine ⟨fun pins s σ H Q I h => ?_⟩
  refine wpAny_Call_Name_kw (ld_glob I hg hm ?_ hdb)
  refine PySem.W.callWith_KW (h₀ := X.base) I.ok.mod.kin hkp hall (thn (ha.run pos pins s σ H _ I h) fun us s1 ⟨vs, H1, I1, r, q⟩ => ?_) hpl he
  refine thn ((pk_cons hk pk_nil).run pos pins s1 σ H1 _ I1 q) fun ws s2 ⟨zs, H2, I2, rz, l1, l2, q2⟩ => ⟨I2.kIn, ?_⟩
  rw [hks]
  exact run_fnNS F hr hb (hx σ) I2 r rz l1 l2 q2
/-- f(e, ..), kw left out -/
theorem pcallDS (c : CalK X.prog X.w X.K X.mg X.base CX k x ps n kw dv sp) (hr : Room k X.A) (hx : ∀ σ, PassesAt CX X σ (E σ)) (ha : PA X (e :: es) t) (hg : Gl X x := by rfl)
    (hdb : (x == ("__debug__" : Str)) = false := by decide) (he : starEach (e :: es) X.env = (false, eval e X.env) :: starEach es X.env := by rfl) (hpl : (backTo pos (starEach es X.env)).any (·.1) = false := by rfl) :
    PE X (.Call (.Name x p) (e :: es) [] pos) (tCallSD sp [dv] E t) := by
  obtain ⟨f, fd, g, kp, _, ⟨ds, hv, b⟩, F⟩ := c
  exact pe_callSD F hr hg g kp b hv hx ha hdb he hpl
/-- f(e, ..) -/
theorem pcallS (c : Cal X.prog X.w X.K X.mg X.base CX k x ps sp) (hr : Room k X.A) (hx : ∀ σ, PassesAt CX X σ (E σ)) (ha : PA X (e :: es) t) (hg : Gl X x := by rfl)
    (hdb : (x == ("__debug__" : Str)) = false := by decide) (he : starEach (e :: es) X.env = (false, eval e X.env) :: starEach es X.env := by rfl) (hpl : (backTo pos (starEach es X.env)).any (·.1) = false := by rfl) :
    PE X (.Call (.Name x p) (e :: es) [] pos) (tCallS sp E t) := by
  obtain ⟨f, fd, g, kp, b, F⟩ := c
  exact pe_callS F hr hg g kp b hx ha hdb he hpl
end
theorem takesNo {X : Cx} : Takes X (fun _ _ _ _ => False) := fun u s' ⟨a, B, sI, pins, σ, H, cls, d, e, I, nb, up, sky, na, os, ag, w⟩ => w.elim
/-! ### the errors -/
def errN : List Str := ["BadLand", "BadWorks", "BadWants"]
def mroVE : List Value := [.type "ValueError", .type "Exception", .type "BaseException", .type "object"]
structure ErrOk (K : PySem.W.Frag) (mg : Str → Option Value) (x : Str) : Prop where
  g : mg x = some (.ref (He.ga K x))
  kp : PySem.W.keepIn K (.ref (He.ga K x)) = true
  sb : PySem.W.subIn K (.ref (He.ga K x)) (.type "BaseException") = some true
  ty : PySem.W.typeIn K (.ref (He.ga K x)) = some (.type "type")
  ec : ExcC K (He.ga K x)
  xo : PySem.W.exmOne K (.ref (He.ga K x)) (.ref (He.ga K "OatError")) = some true
  kv : PySem.W.kitOne K (.ref (He.ga K x)) (.type "ValueError") = some true
  ko : PySem.W.kitOne K (.ref (He.ga K x)) (.ref (He.ga K "OatError")) = some true
structure Errs (K : PySem.W.Frag) (mg : Str → Option Value) : Prop where
  oat : mg "OatError" = some (.ref (He.ga K "OatError"))
  ok : ∀ x ∈ errN, ErrOk K mg x
  own : ∀ x ∈ errN, x ≠ "BadPlan" → PySem.W.excIn K (He.ga K x) mroVE "ValueError.__new__" = true
  sep : ∀ x ∈ errN, ∀ y ∈ errN, PySem.W.kitOne K (.ref (He.ga K x)) (.ref (He.ga K y)) = some (decide (x = y))
def errOkB (K : PySem.W.Frag) (x : Str) : Bool :=
  PySem.W.keepIn K (.ref (He.ga K x)) && (decide (PySem.W.subIn K (.ref (He.ga K x)) (.type "BaseException") = some true) && (decide (PySem.W.typeIn K (.ref (He.ga K x)) = some (.type "type")) &&
  (decide (PySem.W.findIn K (.ref (He.ga K x)) "__getattribute__" = some (some (.builtin "BaseException.__getattribute__"))) && (decide (PySem.W.findIn K (.ref (He.ga K x)) "__getattr__" = some none) && (PySem.W.hasDictIn K (He.ga K x) &&
  (decide (PySem.W.findIn K (.ref (He.ga K x)) "__class__" = some (some (.builtin "object.__class__"))) && (decide (PySem.W.specialIn K (.builtin "object.__class__") "__get__" = some (some (.builtin "getset_descriptor.__get__"))) &&
  (decide (PySem.W.takesIn K (.builtin "object.__class__") = some true) && (decide (PySem.W.mroIn K (He.ga K x) (.type "object") = some true) && (decide (PySem.W.exmOne K (.ref (He.ga K x)) (.ref (He.ga K "OatError")) = some true) &&
  (decide (PySem.W.kitOne K (.ref (He.ga K x)) (.type "ValueError") = some true) && decide (PySem.W.kitOne K (.ref (He.ga K x)) (.ref (He.ga K "OatError")) = some true))))))))))))
def errsB (K : PySem.W.Frag) : Bool := errN.all (fun x => errOkB K x && ((decide (x = "BadPlan") || PySem.W.excIn K (He.ga K x) mroVE "ValueError.__new__") && errN.all fun y => decide (PySem.W.kitOne K (.ref (He.ga K x)) (.ref (He.ga K y)) = some (decide (x = y)))))
theorem errs_of {K : PySem.W.Frag} {mg : Str → Option Value} (h : errsB K = true) (g : ∀ x ∈ errN, mg x = some (.ref (He.ga K x))) (go : mg "OatError" = some (.ref (He.ga K "OatError"))) : Errs K mg := by
  have key : ∀ x ∈ errN, errOkB K x = true ∧ (x ≠ "BadPlan" → PySem.W.excIn K (He.ga K x) mroVE "ValueError.__new__" = true) ∧ ∀ y ∈ errN, PySem.W.kitOne K (.ref (He.ga K x)) (.ref (He.ga K y)) = some (decide (x = y)) := fun x hx => by
    have := List.all_eq_true.mp h x hx
    obtain ⟨h1, h2⟩ := He.ba this
    obtain ⟨h2, h3⟩ := He.ba h2
    refine ⟨h1, fun hn => ?_, fun y hy => of_decide_eq_true (List.all_eq_true.mp h3 y hy)⟩
    rcases Bool.or_eq_true_iff.mp h2 with z | z
    · exact absurd (of_decide_eq_true z) hn
    · exact z
  refine ⟨go, fun x hx => ?_, fun x hx => (key x hx).2.1, fun x hx => (key x hx).2.2⟩
  have k := (key x hx).1
  unfold errOkB at k
  obtain ⟨k1, k⟩ := He.ba k
  obtain ⟨k2, k⟩ := He.ba k
  obtain ⟨k3, k⟩ := He.ba k
  obtain ⟨k4, k⟩ := He.ba k
  obtain ⟨k5, k⟩ := He.ba k
  obtain ⟨k6, k⟩ := He.ba k
  obtain ⟨k7, k⟩ := He.ba k
  obtain ⟨k8, k⟩ := He.ba k
  obtain ⟨k9, k⟩ := He.ba k
  obtain ⟨k10, k⟩ := He.ba k
  obtain ⟨k11, k⟩ := He.ba k
  obtain ⟨k12, k13⟩ := He.ba k
  exact ⟨g x hx, k1, of_decide_eq_true k2, of_decide_eq_true k3, ⟨of_decide_eq_true k4, of_decide_eq_true k5, of_decide_eq_true k2, k6, of_decide_eq_true k7, of_decide_eq_true k8, of_decide_eq_true k9, of_decide_eq_true k10⟩, of_decide_eq_true k11, of_decide_eq_true k12, of_decide_eq_true k13⟩
section
variable {X : Cx}
/-- X('m'), X an error of the program -/
theorem pmkE {x m : Str} {j : Nat} {p p2 pos : Pos} (R : Errs X.K X.mg) (hx : x ∈ errN) (hn : x ≠ "BadPlan") (hg : Gl X x) (hdb : (x == ("__debug__" : Str)) = false := by decide) :
    PMk X (.Call (.Name x p) [.Constant (.str m) j p2] [] pos) (fun _ H Q => Q (.ref (He.ga X.K x)) none H) :=
  pmk_own PySem.F.excBase_ValueError (R.own x hx hn) (R.ok x hx).g (R.ok x hx).kp (raises_own (R.ok x hx).sb (R.ok x hx).ty) hg hdb
end
end Oa
namespace Oa
open PySem PySem.Spec PyProof.Rows L2 Oat
/-! ### min of a list of pairs (a whole number, a count) -/
def pD (e : Int × Nat) : PyData := .tuple [.int e.1, .int (e.2 : Int)]
theorem lt_pD (a b : Int × Nat) : PySem.W.dataLt (pD a) (pD b) = plt a b := by
  unfold pD
  rw [PySem.W.dataLt_pair (by simp [PySem.W.alike]) (by simp [PySem.W.alike]), PySem.W.dataLt_int, PySem.W.dataLt_int]
  unfold plt
  have e1 : PyData.eqv (.int a.1) (.int b.1) = decide (a.1 = b.1) := by
    simp only [PyData.eqv]
    rw [Bool.eq_iff_iff, beq_iff_eq, decide_eq_true_eq]
  have e2 : PyData.eqv (.int (a.2 : Int)) (.int (b.2 : Int)) = decide (a.2 = b.2) := by
    simp only [PyData.eqv]
    rw [Bool.eq_iff_iff, beq_iff_eq, decide_eq_true_eq]
    omega
  rw [e1, e2]
  by_cases h : a.1 = b.1
  · rw [if_pos (decide_eq_true h), if_pos h]
    by_cases h2 : a.2 = b.2
    · rw [if_pos (decide_eq_true h2), h2]
      simp
    · rw [if_neg (by simpa using h2)]
      exact decide_eq_decide.mpr (by omega)
  · rw [if_neg (by simpa using h), if_neg h]
theorem alikeAll_pD (es : List (Int × Nat)) : PySem.W.AlikeAll (es.map pD) := by
  refine ⟨fun x hx y hy => ?_, fun x hx => ?_⟩
  · obtain ⟨a, _, rfl⟩ := List.mem_map.mp hx
    obtain ⟨b, _, rfl⟩ := List.mem_map.mp hy
    unfold pD
    simp [PySem.W.alike, PySem.W.alikeAll]
  · obtain ⟨a, _, rfl⟩ := List.mem_map.mp hx
    exact fun z => nomatch z
theorem depth_pD : ∀ es : List (Int × Nat), PyData.depthAll (es.map pD) ≤ 4
  | [] => by simp [PyData.depthAll]
  | e :: es => by
    have := depth_pD es
    simp only [List.map_cons, PyData.depthAll, pD, PyData.depth]
    omega
theorem minD_pD (e : Int × Nat) (es : List (Int × Nat)) : PySem.W.minD (pD e) (es.map pD) = pD (es.foldl pmin e) := by
  unfold PySem.W.minD
  induction es generalizing e with
  | nil => rfl
  | cons x es ih =>
    rw [List.map_cons, List.foldl_cons, List.foldl_cons, lt_pD]
    have : (if plt x e = true then pD x else pD e) = pD (pmin e x) := by
      unfold pmin
      split <;> rfl
    rw [this]
    exact ih _
theorem dpAll_pD {K : PySem.W.Frag} {H : Hp} : ∀ {xs : List V} {es : List (Int × Nat)}, Paired (fun v e => Dp K H v (pD e)) xs es → DpAll K H xs (es.map pD)
  | _, _, .nil => .nil
  | _, _, .cons a b => .cons a (dpAll_pD b)
section
variable {X : Cx}
def rMinLP (K : PySem.W.Frag) : List V → Hp → VK → Prop := fun vs H Q => ∃ p xs e es, vs = [.ref p] ∧ SqL K H p xs ∧ Paired (fun v e => Dp K H v (pD e)) xs (e :: es) ∧ ∀ v, Dp K H v (pD (es.foldl pmin e)) → Q v H
theorem minLP (K : PySem.W.Frag) (hc : X.calm = true) (hu : X.A.units + 64 < cLine) (h : X.K = K := by rfl) : CallR X (.builtin "min") (rMinLP K) := by
  subst h
  intro pins s σ H vs us Q I r h
  obtain ⟨p, xs, e, es, rfl, hs, hp, q⟩ := h
  obtain ⟨its, rv, hl, _⟩ := I.list hs
  rw [Vals.ref1 r]
  obtain ⟨as, hr⟩ := Dp.readsAll I _ _ _ (dpAll_pD hp) rv
  have d := depth_pD (e :: es)
  refine PySem.W.oa_min_list (vs := its.toArray) (x := pD e) (xs := es.map pD) (I.ok.hd hc) hl.isList (by simpa using hr) (alikeAll_pD (e :: es)) (by have : PyData.depthAll (pD e :: es.map pD) ≤ 4 := d; omega) fun i v h' tk hi hv hm k => ?_
  have hv' : its[i]? = some v := by simpa using hv
  have hi' : i < xs.length := by
    rw [Paired.length hp]
    simpa using hi
  obtain ⟨u, hu', ru⟩ := Vals.get rv (List.getElem?_eq_getElem hi')
  have : u = v := Option.some.inj (hu'.symm.trans hv')
  subst this
  have hd : Dp X.K H xs[i] (pD ((e :: es).getD i (0, 0))) := by
    have : ∀ {xs : List V} {es : List (Int × Nat)}, Paired (fun v e => Dp X.K H v (pD e)) xs es → ∀ (i : Nat) (h : i < xs.length), Dp X.K H xs[i] (pD (es.getD i (0, 0))) := by
      intro xs es hp
      induction hp with
      | nil => intro i h; exact absurd h (Nat.not_lt_zero _)
      | cons a b ih =>
        intro i h
        cases i with
        | zero => exact a
        | succ i => exact ih i (by simpa using h)
    exact this hp i hi'
  have eg : (pD e :: es.map pD).getD i .none = pD ((e :: es).getD i (0, 0)) := by
    have hl' : i < (e :: es).length := by simpa using hi
    rw [← List.map_cons, List.getD_eq_getElem?_getD, List.getElem?_map, List.getD_eq_getElem?_getD, List.getElem?_eq_getElem hl']
    rfl
  rw [eg, minD_pD] at hm
  rw [hm] at hd
  exact ⟨_, H, I.kept k, ru, q _ hd⟩
end
/-! ### data beside itself -/
mutual
def noDict : PyData → Bool
  | .none | .bool _ | .int _ | .str _ => true
  | .list xs | .tuple xs => noDictAll xs
  | .dict _ => false
def noDictAll : List PyData → Bool
  | [] => true
  | x :: xs => noDict x && noDictAll xs
end
mutual
theorem eqv_refl : ∀ d : PyData, noDict d = true → PyData.eqv d d = true
  | .none, _ => rfl
  | .bool b, _ => by simp [PyData.eqv]
  | .int i, _ => by simp [PyData.eqv]
  | .str x, _ => by simp [PyData.eqv]
  | .list xs, h => by
    simp only [PyData.eqv]
    exact eqvAll_refl xs (by simpa only [noDict] using h)
  | .tuple xs, h => by
    simp only [PyData.eqv]
    exact eqvAll_refl xs (by simpa only [noDict] using h)
  | .dict _, h => by simp [noDict] at h
theorem eqvAll_refl : ∀ ds : List PyData, noDictAll ds = true → PyData.eqvAll ds ds = true
  | [], _ => rfl
  | d :: ds, h => by
    simp only [noDictAll, Bool.and_eq_true] at h
    simp only [PyData.eqvAll, eqv_refl d h.1, eqvAll_refl ds h.2, Bool.and_self]
end
end Oa
namespace Oa
open PySem PySem.Spec PyProof.Rows L2 Oat
section
variable {K : PySem.W.Frag} {H : Hp} {a b : Addr} {xs ys : List V} {Q : VK}
/-! ### parts of tuples, tuples put together: what comes out -/
theorem slA_any {lo hi : Option Int} (h : SqT K H a xs) (q : ∀ p H', Same H H' → SqT K H' p (cutV xs lo hi) → Q (.ref p) H') : rSlA K (.ref a) lo hi H Q := by
  refine ⟨a, xs, rfl, h, fun c => ?_, fun _ p np => q p _ (same_new np) (sqt upd_same)⟩
  refine q a H (Same.refl _) ?_
  have e : cutV xs lo hi = xs := by
    unfold cutV
    rw [c.1, c.2, List.drop_zero, Nat.sub_zero, List.take_length]
  rw [e]
  exact h
theorem catA_any (h1 : SqT K H a xs) (h2 : SqT K H b ys) (hl : xs.length + ys.length ≤ sizeLine) (q : ∀ p H', Same H H' → SqT K H' p (xs ++ ys) → Q (.ref p) H') : rCatA K (.ref a) (.ref b) H Q := by
  refine ⟨a, b, xs, ys, rfl, rfl, h1, h2, hl, fun e => q b H (Same.refl _) (by rw [e]; exact h2), fun _ e => q a H (Same.refl _) (by rw [e, List.append_nil]; exact h1), fun _ _ p np => q p _ (same_new np) (sqt upd_same)⟩
theorem cutV_pre (p : Nat) (h : p ≤ xs.length) : cutV xs none (some ((p : Nat) : Int)) = xs.take p := by
  unfold cutV
  rw [HT.sIx_none, HT.sIx_nat, List.drop_zero, Nat.sub_zero, Nat.min_eq_left h]
theorem cutV_post (p : Nat) (h : p ≤ xs.length) : cutV xs (some ((p : Nat) : Int)) none = xs.drop p := by
  unfold cutV
  rw [HT.sIx_none, HT.sIx_nat, Nat.min_eq_left h, List.take_of_length_le (by rw [List.length_drop]; exact Nat.le_refl _)]
theorem take_set_drop {α : Type} {l : List α} {p : Nat} {x : α} (h : p < l.length) : l.take p ++ [x] ++ l.drop (p + 1) = l.set p x := by
  rw [List.set_eq_take_append_cons_drop, if_pos h, List.append_assoc]
  rfl
end
theorem pgTupK {X : Cx} (K : PySem.W.Frag) {es : List Expr} {k n : Nat} {t : TGs} {pos : Pos} (hc : X.calm = true) (h : PGs X es t)
    (hn : (assignEach es X.env).length = n := by rfl) (hst : (assignEach es X.env).findIdx? (·.1) = none := by rfl) (hK : X.K = K := by rfl) : PG X (.Tuple es k pos) (gTup K n t) := by
  subst hK
  exact pg_tup hc h hn hst
/-! ### calls by several keywords -/
section
variable (P : Program) (w : World) (K : PySem.W.Frag) (mg : Str → Option Value) (base : Heap)
def CalKs (CX : CXT) (k : Nat) (x : Str) (ps : List Str) (n : Nat) (ks : List Str) (sp : Sp) : Prop :=
  ∃ f fd, mg x = some (.ref f) ∧ PySem.W.keepIn K (.ref f) = true ∧ KBn K fd ps n ks (fun us ws => us ++ ws) (fun vs zs => vs ++ zs) ∧ FnOk P w K mg base CX k f fd ps sp
end
section
variable {P : Program} {w : World} {K : PySem.W.Frag} {mg : Str → Option Value} {base : Heap}
theorem calKs {CX : CXT} {x : Str} {kd : Str × V} {kds : List (Str × V)} {ks : List Str} {st : Stmt} {N ps : List Str} {k n : Nat} {sp : Sp} (D : Dfn K mg x st (kd :: kds)) (S : FnScope N ps (defScope st))
    (bk : ∀ (D : Addr) (doc pm : Value) (an : Option Addr) (cdv ct : Value) (us ws : List Value), us.length = n → ws.length = ks.length → bindArgs (PySem.W.fnOf x x (defArgs st) (defBody st) (defScope st) .none (.ref D) doc pm an cdv ct) ⟨us, ks.zip ws⟩ = pure (ps.zip (us ++ ws)))
    (len : ∀ vs H Q E, sp vs H Q E → vs.length = ps.length)
    (hbody : ∀ (f : Addr) (cdv : Value) (A : Around) (outer : List Env) (s : Shared) (H : Hp) (vs : List V) (Q : VK) (E : XK), Room k (A.deeper (envOfC x (defScope st) s.heap.objs.size f cdv)) → sp vs H Q E →
      ∃ t, PSs (cxOf CX P w K mg base N x (defScope st) f cdv A outer s H E) (defBody st) t ∧ t { nx := fun _ H' => Q .non H', rt := Q } (start N vs) H) : CalKs P w K mg base CX (k + 1) x ps n ks sp := by
  obtain ⟨f, fd, g, F⟩ := D
  refine ⟨f, fd, g, F.kp, ?_, F.ok S len fun cdv A outer s H vs Q E hr h => hbody f cdv A outer s H vs Q E hr h⟩
  obtain ⟨oc, od, dV, kV, doc, pm, an, cdv, ct, osl, rfl, lk, hcd, hD, hK⟩ := F.ex
  rcases hD with ⟨_, rfl⟩ | ⟨e, _⟩
  · rcases hK with e | ⟨D, rfl, hq⟩
    · cases e
    · exact ⟨fun s us ws _ l1 l2 => .of_eq (bk D doc pm an cdv ct us ws l1 l2), fun r1 r2 => r1.append r2⟩
  · exact absurd rfl e
end
section
variable {X : Cx} {CX : CXT} {k n : Nat} {x k1 k2 : Str} {ps : List Str} {sp : Sp} {e e1 e2 : Expr} {es : List Expr} {t : TA} {te1 te2 : TE} {p pos p1 p2 : Pos} {E : XK}
/-- f(e, .., k1 = v, k2 = u) -/
theorem pcallK2 (c : CalKs X.prog X.w X.K X.mg X.base CX k x ps n [k1, k2] sp) (hr : Room k X.A) (hx : Passes CX X E) (ha : PA X (e :: es) t) (h1 : PE X e1 te1) (h2 : PE X e2 te2) (hg : Gl X x := by rfl)
    (hall : (backToKw pos (keywordEach [⟨some k1, e1, p1⟩, ⟨some k2, e2, p2⟩] X.env)).all (·.1.isSome) = true := by rfl) (hks : (backToKw pos (keywordEach [⟨some k1, e1, p1⟩, ⟨some k2, e2, p2⟩] X.env)).filterMap (·.1) = [k1, k2] := by rfl)
    (hdb : (x == ("__debug__" : Str)) = false := by decide) (he : starEach (e :: es) X.env = (false, eval e X.env) :: starEach es X.env := by rfl)
    (hpl : ((backTo pos (starEach (e :: es) X.env)).any (·.1) || (backToKw pos (keywordEach [⟨some k1, e1, p1⟩, ⟨some k2, e2, p2⟩] X.env)).any (·.1.isNone)) = false := by rfl) :
    PE X (.Call (.Name x p) (e :: es) [⟨some k1, e1, p1⟩, ⟨some k2, e2, p2⟩] pos) (tCallN n 2 sp (fun vs zs => vs ++ zs) E t (tCons te1 (tCons te2 tNil))) := by
  obtain ⟨f, fd, g, kp, b, F⟩ := c
  exact pe_callN F hr hg g kp b hx ha (pk_cons h1 (pk_cons h2 pk_nil)) hall hks hdb he hpl
end
end Oa
namespace Oa
open PySem PySem.Spec PyProof.Rows L2

def d_is_whole : He.DefD := ⟨("is_whole", none), "is_whole", "is_whole", defArgs s_is_whole, defBody s_is_whole, defScope s_is_whole, [], []⟩
def d_is_land : He.DefD := ⟨("is_land", none), "is_land", "is_land", defArgs s_is_land, defBody s_is_land, defScope s_is_land, [], []⟩
def d_is_works : He.DefD := ⟨("is_works", none), "is_works", "is_works", defArgs s_is_works, defBody s_is_works, defScope s_is_works, [], []⟩
def d_is_wants : He.DefD := ⟨("is_wants", none), "is_wants", "is_wants", defArgs s_is_wants, defBody s_is_wants, defScope s_is_wants, [], []⟩
def d_look_land : He.DefD := ⟨("look_land", none), "look_land", "look_land", defArgs s_look_land, defBody s_look_land, defScope s_look_land, [], []⟩
def d_look_works : He.DefD := ⟨("look_works", none), "look_works", "look_works", defArgs s_look_works, defBody s_look_works, defScope s_look_works, [], []⟩
def d_look_case : He.DefD := ⟨("look_case", none), "look_case", "look_case", defArgs s_look_case, defBody s_look_case, defScope s_look_case, [], []⟩
def d_beyond : He.DefD := ⟨("beyond", none), "beyond", "beyond", defArgs s_beyond, defBody s_beyond, defScope s_beyond, [], []⟩
def d_going_out : He.DefD := ⟨("going_out", none), "going_out", "going_out", defArgs s_going_out, defBody s_going_out, defScope s_going_out, [], []⟩
def d_best_parting : He.DefD := ⟨("best_parting", none), "best_parting", "best_parting", defArgs s_best_parting, defBody s_best_parting, defScope s_best_parting, [], []⟩
def d_own_need : He.DefD := ⟨("own_need", none), "own_need", "own_need", defArgs s_own_need, defBody s_own_need, defScope s_own_need, [], []⟩
def d_is_called : He.DefD := ⟨("is_called", none), "is_called", "is_called", defArgs s_is_called, defBody s_is_called, defScope s_is_called, [], []⟩
def d_tables_of : He.DefD := ⟨("tables_of", none), "tables_of", "tables_of", defArgs s_tables_of, defBody s_tables_of, defScope s_tables_of, [], []⟩
def d_taken_for : He.DefD := ⟨("taken_for", none), "taken_for", "taken_for", defArgs s_taken_for, defBody s_taken_for, defScope s_taken_for, [], []⟩
def d_best_left : He.DefD := ⟨("best_left", none), "best_left", "best_left", defArgs s_best_left, defBody s_best_left, defScope s_best_left, [], []⟩
def d_least_of : He.DefD := ⟨("least_of", none), "least_of", "least_of", defArgs s_least_of, defBody s_least_of, defScope s_least_of, [], []⟩
def d_least : He.DefD := ⟨("least", none), "least", "least", defArgs s_least, defBody s_least, defScope s_least, [], [("left", .int 0)]⟩
def d__law_town : He.DefD := ⟨("_law_town", none), "_law_town", "_law_town", defArgs s__law_town, defBody s__law_town, defScope s__law_town, [], []⟩
def d__law_draw : He.DefD := ⟨("_law_draw", none), "_law_draw", "_law_draw", defArgs s__law_draw, defBody s__law_draw, defScope s__law_draw, [], []⟩
def d__law_pick : He.DefD := ⟨("_law_pick", none), "_law_pick", "_law_pick", defArgs s__law_pick, defBody s__law_pick, defScope s__law_pick, [], []⟩
def d__law_land : He.DefD := ⟨("_law_land", none), "_law_land", "_law_land", defArgs s__law_land, defBody s__law_land, defScope s__law_land, [], []⟩
def d__law_after : He.DefD := ⟨("_law_after", none), "_law_after", "_law_after", defArgs s__law_after, defBody s__law_after, defScope s__law_after, [], []⟩
def d__law_is_wanted : He.DefD := ⟨("_law_is_wanted", none), "_law_is_wanted", "_law_is_wanted", defArgs s__law_is_wanted, defBody s__law_is_wanted, defScope s__law_is_wanted, [], []⟩
def d__law_best : He.DefD := ⟨("_law_best", none), "_law_best", "_law_best", defArgs s__law_best, defBody s__law_best, defScope s__law_best, [], []⟩
def d__law_table : He.DefD := ⟨("_law_table", none), "_law_table", "_law_table", defArgs s__law_table, defBody s__law_table, defScope s__law_table, [], []⟩
def d__law_out : He.DefD := ⟨("_law_out", none), "_law_out", "_law_out", defArgs s__law_out, defBody s__law_out, defScope s__law_out, [], []⟩
def d__law_least : He.DefD := ⟨("_law_least", none), "_law_least", "_law_least", defArgs s__law_least, defBody s__law_least, defScope s__law_least, [], []⟩
def d__law_moves : He.DefD := ⟨("_law_moves", none), "_law_moves", "_law_moves", defArgs s__law_moves, defBody s__law_moves, defScope s__law_moves, [], []⟩
def d__law_good : He.DefD := ⟨("_law_good", none), "_law_good", "_law_good", defArgs s__law_good, defBody s__law_good, defScope s__law_good, [], []⟩
def d__law_searched : He.DefD := ⟨("_law_searched", none), "_law_searched", "_law_searched", defArgs s__law_searched, defBody s__law_searched, defScope s__law_searched, [], []⟩
def d_law : He.DefD := ⟨("law", none), "law", "law", defArgs s_law, defBody s_law, defScope s_law, [], []⟩
def hfn : List He.DefD := [d_is_whole, d_is_land, d_is_works, d_is_wants, d_look_land, d_look_works, d_look_case, d_beyond, d_going_out, d_best_parting, d_own_need, d_is_called, d_tables_of, d_taken_for, d_best_left, d_least_of, d_least, d__law_town, d__law_draw, d__law_pick, d__law_land, d__law_after, d__law_is_wanted, d__law_best, d__law_table, d__law_out, d__law_least, d__law_moves, d__law_good, d__law_searched, d_law]
def hfa : List He.Fa := [.glo "OatError", .glo "BadLand", .glo "BadWorks", .glo "BadWants", .glo "is_whole", .glo "is_land", .glo "is_works", .glo "is_wants", .glo "look_land", .glo "look_works", .glo "look_case", .glo "beyond", .glo "going_out", .glo "best_parting", .glo "own_need", .glo "is_called", .glo "tables_of", .glo "taken_for", .glo "best_left", .glo "least_of", .glo "least", .glo "_law_town", .glo "_law_draw", .glo "_law_pick", .glo "_law_land", .glo "_law_after", .glo "_law_is_wanted", .glo "_law_best", .glo "_law_table", .glo "_law_out", .glo "_law_least", .glo "_law_moves", .glo "_law_good", .glo "_law_searched", .glo "law", .free "all", .free "bool", .free "int", .free "isinstance", .free "len", .free "list", .free "max", .free "min", .free "range", .free "sorted", .free "tuple", .int "MOST_PLACES" 30, .int "MOST_CARTS" 6, .int "MOST_ROOM" 20, .int "MOST_WANT" 999]
def hloose : List Str := (["OatError", "BadLand", "BadWorks", "BadWants", "is_whole", "MOST_PLACES", "MOST_CARTS", "MOST_ROOM", "MOST_WANT", "is_land", "is_works", "is_wants", "look_land", "look_works", "look_case", "beyond", "going_out", "best_parting", "own_need", "is_called", "tables_of", "taken_for", "best_left", "least_of", "least", "_law_town", "_law_draw", "_law_pick", "_law_land", "_law_after"] : List Str) ++ (["_law_is_wanted", "_law_best", "_law_table", "_law_out", "_law_least", "_law_moves", "_law_good", "_law_searched"] : List Str)
abbrev rowR : PySem.W.OpenRow := PySem.W.OpenLaw.row PySem.Challenge.rw_oatroads_k02_whole_searched
abbrev hkR : PySem.W.Hook := He.hookX 5 hfa hfn [] [] errsB
def obR (s : PySem.W.SharedT) : He.AlX := He.obsX 5 hfa hfn [] [] errsB (HandSHeadRun.getT s)
theorem obR_eq (s : PySem.W.SharedT) : obR s = hkR.obs s.abs := He.obsX_eq (HandSHeadRun.getT_eq s)
theorem runR (w : World) : HandSHeadRun.RunEq rowR (PySem.W.view rowR.prog [42]) hkR obR 6000 hloose w := by
  intro os
  kernel_rfl
end Oa
namespace Oa
open PySem PySem.Spec PyProof.Rows L2 Oat
section
variable {P : Program} {w : World} {K : PySem.W.Frag} {mg : Str → Option Value} {base : Heap}
/-! ### is_whole -/
def isWholeV (v : V) (lo hi : Int) : Bool := match v with
  | .int i => decide (lo ≤ i ∧ i ≤ hi)
  | _ => false
/-- an int, a bool, or a thing of a type that is none -/
def Thing (K : PySem.W.Frag) (H : Hp) (v : V) : Prop := (∃ i, v = .int i) ∨ (∃ b, v = .bl b) ∨ ((∀ i, v ≠ .int i) ∧ ∃ t, TyX K H v (.type t) ∧ kitB t "int" = some false)
def sp_is_whole (K : PySem.W.Frag) : Sp := fun vs H Q _ => ∃ v lo hi, vs = [v, .int lo, .int hi] ∧ Thing K H v ∧ Q (.bl (isWholeV v lo hi)) H
theorem c_is_whole (T : Txt K mg) : Cal P w K mg base CX0 1 "is_whole" ["thing", "low", "high"] (sp_is_whole K) := by
  refine cal0 T.d_is_whole sc_is_whole (fun _ _ _ _ _ _ us hl => match us, hl with | [_, _, _], _ => rfl) (fun vs H Q E h => ?_) (fun f cdv A outer s H vs Q E hr h => ?_)
  · obtain ⟨v, lo, hi, rfl, _⟩ := h
    rfl
  · obtain ⟨v, lo, hi, rfl, th, q⟩ := h
    refine ⟨_, (pss_one (ps_ret (pe_and (pe_callB (isi K) rfl T.b_isinstance (by decide +kernel) (pa_cons (pv 0) (pa_cons (pe_bltn (v := .ty "int") rfl T.b_int (by decide +kernel) rfl) pa_nil))) (pe_and (pe_not (pe_callB (isi K) rfl T.b_isinstance (by decide +kernel) (pa_cons (pv 0) (pa_cons (pe_bltn (v := .ty "bool") rfl T.b_bool (by decide +kernel) rfl) pa_nil)))) (pe_one (pe_chain op_le op_le (pv 1) (pv 0) (pv 2))))))), ?_⟩
    rcases th with ⟨i, rfl⟩ | ⟨b, rfl⟩ | ⟨ni, t, ty, kb⟩
    · refine ⟨_, rfl, .int i, .ty "int", .type "int", .type "int", true, rfl, .ty "int", .base (.int i), kit_ty (by decide +kernel), true, rfl, iteT ?_⟩
      refine ⟨_, rfl, .int i, .ty "bool", .type "int", .type "bool", false, rfl, .ty "bool", .base (.int i), kit_ty (by decide +kernel), false, rfl, true, rfl, iteT ?_⟩
      refine ⟨_, rfl, _, rfl, _, _, rfl, rfl, _, rfl, ite2 (fun c => ?_) (fun c => ?_)⟩
      · refine ⟨_, rfl, _, _, rfl, rfl, ?_⟩
        have c' := of_decide_eq_true c
        have e : isWholeV (.int i) lo hi = decide (i ≤ hi) := by
          unfold isWholeV
          exact decide_eq_decide.mpr ⟨fun h => h.2, fun h => ⟨c', h⟩⟩
        rw [e] at q
        exact q
      · have c' := of_decide_eq_false (Bool.eq_false_iff.mpr c)
        have e : isWholeV (.int i) lo hi = false := decide_eq_false fun h => c' h.1
        rw [e] at q
        exact q
    · refine ⟨_, rfl, .bl b, .ty "int", .type "bool", .type "int", true, rfl, .ty "int", .base (.bl b), kit_ty (by decide +kernel), true, rfl, iteT ?_⟩
      refine ⟨_, rfl, .bl b, .ty "bool", .type "bool", .type "bool", true, rfl, .ty "bool", .base (.bl b), kit_ty (by decide +kernel), true, rfl, false, rfl, iteF ?_⟩
      exact q
    · refine ⟨_, rfl, v, .ty "int", .type t, .type "int", false, rfl, .ty "int", ty, kit_ty kb, false, rfl, iteF ?_⟩
      have e : isWholeV v lo hi = false := by
        cases v with
        | int i => exact absurd rfl (ni i)
        | _ => rfl
      rw [e] at q
      exact q
/-! ### lands, works, wants as values -/
def landV (L : List Nat) : List V := .non :: L.map fun (p : Nat) => V.int (p : Int)
def optV : Option Nat → V
  | none => .non
  | some n => .int (n : Int)
def wantsV (W : List (Option Nat)) : List V := W.map optV
theorem landV_len (L : List Nat) : (landV L).length = L.length + 1 := by simp [landV]
theorem landV_at {L : List Nat} {i : Nat} (h : i < L.length) : (landV L)[i + 1]? = some (.int ((L.getD i 0 : Nat) : Int)) := by
  simp [landV, h]
theorem optV_thing {H : Hp} (o : Option Nat) : Thing K H (optV o) := by
  cases o with
  | none => exact .inr (.inr ⟨(fun i e => nomatch e), "NoneType", TyX.base TyOf.non, by decide +kernel⟩)
  | some n => exact .inl ⟨n, rfl⟩
/-! ### beyond -/
def sp_beyond (K : PySem.W.Frag) : Sp := fun vs H Q _ => ∃ a L p, vs = [.ref a, .int ((p : Nat) : Int)] ∧ SqT K H a (landV L) ∧ L.length < 30 ∧
  ∀ l H', H l = none → Same H H' → H' l = some (.lst ((kids L p).map fun (k : Nat) => V.int (k : Int))) → Q (.ref l) H'
theorem paired_vals {α : Type} {g : α → V} {Rr : α → V → Prop} (h : ∀ a v, Rr a v → v = g a) : ∀ {xs : List α} {ys : List V}, Paired Rr xs ys → ys = xs.map g
  | _, _, .nil => rfl
  | _, _, .cons a b => by rw [List.map_cons, h _ _ a, paired_vals h b]
theorem c_beyond (T : Txt K mg) : Cal P w K mg base CX0 1 "beyond" ["land", "place"] (sp_beyond K) := by
  refine cal0 T.d_beyond sc_beyond (fun _ _ _ _ _ _ us hl => match us, hl with | [_, _], _ => rfl) (fun vs H Q E h => ?_) (fun f cdv A outer s H vs Q E hr h => ?_)
  · obtain ⟨a, L, p, rfl, _⟩ := h
    rfl
  · obtain ⟨a, L, p, rfl, hS, hL, q⟩ := h
    refine ⟨_, (pss_one (ps_ret (pe_lc (own := [("k", 2)]) (g := gName 2) rfl sc_beyond.nd (pi_range2 rfl T.b_range (pa_cons pe_int (pa_cons (pe_callB (lenS K) rfl T.b_len PySem.boot_len (pa_cons (pv 0) pa_nil)) pa_nil))) (blkOk_by (own := [("k", 2)]) (N := ["land", "place", "k"]) (sc := (defScope s_beyond)) (by decide +kernel)) (fun _ _ _ _ _ => pg_name (i := 2) sc_beyond.nd rfl (Or.inl rfl)) (fun _ _ _ _ _ => pts_one (pt_cmpR op_eq (pe_ix (ixT K) (pv 0) (pv 2) (fun _ _ => rfl)) (pv 1) (nomark _))) (fun _ _ _ _ _ => (pv 2))))), ?_⟩
    have el : (landV L).length = L.length + 1 := landV_len L
    refine ⟨_, rfl, a, _, rfl, .inr hS, _, _, rfl, ⟨by decide, by decide, by omega, by omega⟩, fun D hD => ?_⟩
    refine lc_rel walk_range hD (by omega) (fun _ _ => trivial) (fun i => L.getD i 0 == p) (fun i v _ => v = .int ((i + 1 : Nat) : Int)) (fun _ _ _ _ _ _ _ h => h) (fun i x H2 H3 l hi s1 hy y => ?_) (fun ys H2 s1 hy hp => ?_)
    · obtain ⟨rfl, rfl⟩ := y
      have hi' : i < L.length := by omega
      have e1 : (1 : Int) + (i : Int) = ((i + 1 : Nat) : Int) := by omega
      refine ⟨Same.refl _, rfl, fun Q' q' => ?_, fun _ H4 _ Q' q' => ?_⟩
      · refine ⟨_, rfl, _, rfl, a, _, _, _, rfl, rfl, same_t s1 hS, (by rw [e1]; exact atI_nat (landV_at hi')), _, rfl, rfl, _, rfl, ?_⟩
        have e2 : decide (V.int ((L.getD i 0 : Nat) : Int) = V.int ((p : Nat) : Int)) = (L.getD i 0 == p) := by
          rw [Bool.eq_iff_iff, decide_eq_true_eq, beq_iff_eq]
          exact ⟨fun h => by injection h with h; omega, fun h => by rw [h]⟩
        have q2 := q' H3 (Same.refl _)
        rw [← e2] at q2
        exact q2
      · exact ⟨_, rfl, q' _ H4 (Same.refl _) (congrArg V.int e1)⟩
    · have e3 : (((landV L).length : Int) - 1).toNat = L.length := by omega
      rw [e3] at hp
      have e4 := paired_vals (g := fun i => V.int ((i + 1 : Nat) : Int)) (fun _ _ h => h) hp
      refine q D H2 hD s1 ?_
      rw [hy, e4]
      unfold kids
      rw [List.map_map]
      rfl
/-! ### is_land, is_works, is_wants: of those that are -/
theorem all_yes : ∀ {xs : List Nat} {ys : List V}, Paired (fun (_ : Nat) v => v = V.bl true) xs ys → ∃ bs : List Bool, ys = bs.map V.bl ∧ bs.all id = true
  | _, _, .nil => ⟨[], rfl, rfl⟩
  | _, _, .cons a b => by
    obtain ⟨bs, e, h⟩ := all_yes b
    exact ⟨true :: bs, by rw [a, e]; rfl, by rw [List.all_cons, h]; rfl⟩
theorem tyT {H : Hp} {a : Addr} {xs : List V} (h : SqT K H a xs) : TyX K H (.ref a) (.type "tuple") := by
  rcases h with (h | ⟨o, h⟩) | ⟨o, its, n, h1, h2, _⟩
  · exact .base (.tup h)
  · exact .fTuple h
  · exact .kTuple h1 h2
def sp_is_land (K : PySem.W.Frag) : Sp := fun vs H Q _ => ∃ a L, vs = [.ref a] ∧ SqT K H a (landV L) ∧ L.length < 30 ∧ WfL L ∧ ∀ H', Same H H' → Q (.bl true) H'
theorem c_is_land (T : Txt K mg) : Cal P w K mg base CX0 2 "is_land" ["thing"] (sp_is_land K) := by
  refine cal0 T.d_is_land sc_is_land (fun _ _ _ _ _ _ us hl => match us, hl with | [_], _ => rfl) (fun vs H Q E h => ?_) (fun f cdv A outer s H vs Q E hr h => ?_)
  · obtain ⟨a, L, rfl, _⟩ := h
    rfl
  · obtain ⟨a, L, rfl, hS, hL, wf, q⟩ := h
    refine ⟨_, (pss_cons (ps_if (PW.pt (pw_or (pt_not (pt_val (pe_callB (isi K) rfl T.b_isinstance (by decide +kernel) (pa_cons (pv 0) (pa_cons (pe_bltn (v := .ty "tuple") rfl T.b_tuple (by decide +kernel) rfl) pa_nil))))) (pw_or (pt_not (pt_chain op_le op_le pe_int (pe_callB (lenS K) rfl T.b_len PySem.boot_len (pa_cons (pv 0) pa_nil)) (pe_glob (v := .int 30) rfl T.i_MOST_PLACES.choose_spec ⟨_, rfl⟩))) (pw_or1 (pt_cmpR op_notN (pe_ix (ixT K) (pv 0) pe_int (fun _ _ => rfl)) pe_non (nomark _)))))) (pss_one (ps_ret pe_bl)) pss_nil)
      (pss_one (ps_ret (pe_callB (allL K rfl) rfl T.b_all (by decide +kernel) (pa_cons (pe_lc (own := [("k", 1)]) (g := gName 1) rfl sc_is_land.nd (pi_range2 rfl T.b_range (pa_cons pe_int (pa_cons (pe_callB (lenS K) rfl T.b_len PySem.boot_len (pa_cons (pv 0) pa_nil)) pa_nil))) (blkOk_by (own := [("k", 1)]) (N := ["thing", "k"]) (sc := (defScope s_is_land)) (by decide +kernel)) (fun _ _ _ _ _ => pg_name (i := 1) sc_is_land.nd rfl (Or.inl rfl)) (fun _ _ _ _ _ => pts_nil) (fun _ _ _ _ _ => (pcall (c_is_whole T) (hr.mono (by omega)) (pa_cons (pe_ix (ixT K) (pv 0) (pv 1) (fun _ _ => rfl)) (pa_cons pe_int (pa_cons (pe_op op_sub (pv 1) pe_int) pa_nil)))))) pa_nil))))), ?_⟩
    have el : (landV L).length = L.length + 1 := landV_len L
    refine ⟨_, rfl, .ref a, .ty "tuple", .type "tuple", .type "tuple", true, rfl, .ty "tuple", tyT hS, kit_ty (by decide +kernel), true, rfl, iteF ?_⟩
    refine ⟨_, rfl, a, _, rfl, .inr hS, 1, _, rfl, rfl, true, congrArg V.bl (decide_eq_true (by omega)), iteT ?_⟩
    refine ⟨_, _, rfl, rfl, true, congrArg V.bl (decide_eq_true (by omega)), iteF ?_⟩
    refine ⟨_, rfl, a, _, 0, .non, rfl, rfl, hS, atI_nat (j := 0) rfl, rfl, false, rfl, iteF ?_⟩
    refine ⟨_, rfl, a, _, rfl, .inr hS, _, _, rfl, ⟨by decide, by decide, by omega, by omega⟩, fun D hD => ?_⟩
    refine lc_rel walk_range hD (by omega) (fun _ _ => trivial) (fun i => true) (fun i v _ => v = .bl true) (fun _ _ _ _ _ _ _ h => h) (fun i x H2 H3 l hi s1 hy y => ?_) (fun ys H2 s1 hy hp => ?_)
    · obtain ⟨rfl, rfl⟩ := y
      have hi' : i < L.length := by omega
      have e1 : (1 : Int) + (i : Int) = ((i + 1 : Nat) : Int) := by omega
      refine ⟨Same.refl _, rfl, fun Q' q' => q' H3 (Same.refl _), fun _ H4 s4 Q' q' => ?_⟩
      refine ⟨_, rfl, _, rfl, a, _, _, _, rfl, rfl, same_t (s1.trans s4) hS, (by rw [e1]; exact atI_nat (landV_at hi')), _, rfl, _, _, rfl, rfl, _, _, _, rfl, .inl ⟨_, rfl⟩, ?_⟩
      refine q' _ H4 (Same.refl _) ?_
      have hw := wf i hi'
      exact congrArg V.bl (decide_eq_true ⟨by omega, by omega⟩)
    · obtain ⟨bs, e, hb⟩ := all_yes hp
      refine ⟨D, bs, rfl, sql (by rw [hy, e]), ?_⟩
      rw [hb]
      exact q H2 s1
def worksV (c r : Nat) : List V := [.int (c : Int), .int (r : Int)]
def sp_is_works (K : PySem.W.Frag) : Sp := fun vs H Q _ => ∃ a c r, vs = [.ref a] ∧ SqT K H a (worksV c r) ∧ 1 ≤ c ∧ c ≤ 6 ∧ 2 ≤ r ∧ r ≤ 20 ∧ Q (.bl true) H
theorem c_is_works (T : Txt K mg) : Cal P w K mg base CX0 2 "is_works" ["thing"] (sp_is_works K) := by
  refine cal0 T.d_is_works sc_is_works (fun _ _ _ _ _ _ us hl => match us, hl with | [_], _ => rfl) (fun vs H Q E h => ?_) (fun f cdv A outer s H vs Q E hr h => ?_)
  · obtain ⟨a, c, r, rfl, _⟩ := h
    rfl
  · obtain ⟨a, c, r, rfl, hS, h1, h2, h3, h4, q⟩ := h
    refine ⟨_, (pss_cons (ps_if (PW.pt (pw_or (pt_not (pt_val (pe_callB (isi K) rfl T.b_isinstance (by decide +kernel) (pa_cons (pv 0) (pa_cons (pe_bltn (v := .ty "tuple") rfl T.b_tuple (by decide +kernel) rfl) pa_nil))))) (pw_or (pt_cmpR op_ne (pe_callB (lenS K) rfl T.b_len PySem.boot_len (pa_cons (pv 0) pa_nil)) pe_int (nomark _)) (pw_or1 (pt_not (pt_val (pcall (c_is_whole T) (hr.mono (by omega)) (pa_cons (pe_ix (ixT K) (pv 0) pe_int (fun _ _ => rfl)) (pa_cons pe_int (pa_cons (pe_glob (v := .int 6) rfl T.i_MOST_CARTS.choose_spec ⟨_, rfl⟩) pa_nil)))))))))) (pss_one (ps_ret pe_bl)) pss_nil)
      (pss_one (ps_ret (pcall (c_is_whole T) (hr.mono (by omega)) (pa_cons (pe_ix (ixT K) (pv 0) pe_int (fun _ _ => rfl)) (pa_cons pe_int (pa_cons (pe_glob (v := .int 20) rfl T.i_MOST_ROOM.choose_spec ⟨_, rfl⟩) pa_nil))))))), ?_⟩
    refine ⟨_, rfl, .ref a, .ty "tuple", .type "tuple", .type "tuple", true, rfl, .ty "tuple", tyT hS, kit_ty (by decide +kernel), true, rfl, iteF ?_⟩
    refine ⟨_, rfl, a, _, rfl, .inr hS, rfl, false, rfl, iteF ?_⟩
    refine ⟨_, rfl, a, _, 0, _, rfl, rfl, hS, rfl, _, _, _, rfl, .inl ⟨_, rfl⟩, true, congrArg V.bl (decide_eq_true ⟨by omega, by omega⟩), iteF ?_⟩
    refine ⟨_, rfl, a, _, 1, _, rfl, rfl, hS, rfl, _, _, _, rfl, .inl ⟨_, rfl⟩, ?_⟩
    have e : isWholeV (.int (r : Int)) 2 20 = true := decide_eq_true ⟨by omega, by omega⟩
    show Q (.bl (isWholeV (.int (r : Int)) 2 20)) H
    rw [e]
    exact q
def WantsOk (W : List (Option Nat)) : Prop := ∀ (i : Nat) (u : Nat), W[i]? = some (some u) → u ≤ 999
def sp_is_wants (K : PySem.W.Frag) : Sp := fun vs H Q _ => ∃ a b L W, vs = [.ref a, .ref b] ∧ SqT K H a (landV L) ∧ SqT K H b (wantsV W) ∧ W.length = L.length + 1 ∧ L.length < 30 ∧ WantsOk W ∧ ∀ H', Same H H' → Q (.bl true) H'
theorem wantsV_len (W : List (Option Nat)) : (wantsV W).length = W.length := by simp [wantsV]
theorem wantsV_at {W : List (Option Nat)} {i : Nat} {x : V} (h : (wantsV W)[i]? = some x) : ∃ o, W[i]? = some o ∧ x = optV o := by
  unfold wantsV at h
  rw [List.getElem?_map] at h
  cases e : W[i]? with
  | none => rw [e] at h; cases h
  | some o => rw [e] at h; exact ⟨o, rfl, (Option.some.inj h).symm⟩
theorem c_is_wants (T : Txt K mg) : Cal P w K mg base CX0 2 "is_wants" ["land", "thing"] (sp_is_wants K) := by
  refine cal0 T.d_is_wants sc_is_wants (fun _ _ _ _ _ _ us hl => match us, hl with | [_, _], _ => rfl) (fun vs H Q E h => ?_) (fun f cdv A outer s H vs Q E hr h => ?_)
  · obtain ⟨a, b, L, W, rfl, _⟩ := h
    rfl
  · obtain ⟨a, b, L, W, rfl, hS, hW, hl, hL, hw, q⟩ := h
    refine ⟨_, (pss_cons (ps_if (PW.pt (pw_or (pt_not (pt_val (pe_callB (isi K) rfl T.b_isinstance (by decide +kernel) (pa_cons (pv 1) (pa_cons (pe_bltn (v := .ty "tuple") rfl T.b_tuple (by decide +kernel) rfl) pa_nil))))) (pw_or1 (pt_cmpR op_ne (pe_callB (lenS K) rfl T.b_len PySem.boot_len (pa_cons (pv 1) pa_nil)) (pe_callB (lenS K) rfl T.b_len PySem.boot_len (pa_cons (pv 0) pa_nil)) (nomark _))))) (pss_one (ps_ret pe_bl)) pss_nil)
      (pss_one (ps_ret (pe_callB (allL K rfl) rfl T.b_all (by decide +kernel) (pa_cons (pe_lc (own := [("one", 2)]) (g := gName 2) rfl sc_is_wants.nd (piT K (pv 1)) (blkOk_by (own := [("one", 2)]) (N := ["land", "thing", "one"]) (sc := (defScope s_is_wants)) (by decide +kernel)) (fun _ _ _ _ _ => pg_name (i := 2) sc_is_wants.nd rfl (Or.inl rfl)) (fun _ _ _ _ _ => pts_nil) (fun _ _ _ _ _ => (pe_or (pe_cmpR op_isN (pv 2) pe_non (nomark _)) (pe_one (pcall (c_is_whole T) (hr.mono (by omega)) (pa_cons (pv 2) (pa_cons pe_int (pa_cons (pe_glob (v := .int 999) rfl T.i_MOST_WANT.choose_spec ⟨_, rfl⟩) pa_nil)))))))) pa_nil))))), ?_⟩
    have el : (landV L).length = L.length + 1 := landV_len L
    have ew : (wantsV W).length = W.length := wantsV_len W
    refine ⟨_, rfl, .ref b, .ty "tuple", .type "tuple", .type "tuple", true, rfl, .ty "tuple", tyT hW, kit_ty (by decide +kernel), true, rfl, iteF ?_⟩
    refine ⟨_, rfl, b, _, rfl, .inr hW, _, rfl, a, _, rfl, .inr hS, rfl, false, ?_, iteF ?_⟩
    · rw [el, ew, hl]
      simp
    refine ⟨_, rfl, b, rfl, ⟨_, hW⟩, fun D hD => ?_⟩
    refine lc_rel (walk_tup (xs := wantsV W)) hD (by omega) (fun H' s => same_t s hW) (fun i => true) (fun i v _ => v = .bl true) (fun _ _ _ _ _ _ _ h => h) (fun i x H2 H3 l hi s1 hy y => ?_) (fun ys H2 s1 hy hp => ?_)
    · obtain ⟨rfl, hx⟩ := y
      obtain ⟨o, ho, rfl⟩ := wantsV_at hx
      refine ⟨Same.refl _, rfl, fun Q' q' => q' H3 (Same.refl _), fun _ H4 s4 Q' q' => ?_⟩
      cases o with
      | none => exact ⟨_, rfl, rfl, true, rfl, iteT (q' _ H4 (Same.refl _) rfl)⟩
      | some u =>
        refine ⟨_, rfl, rfl, false, rfl, iteF ?_⟩
        refine ⟨_, rfl, _, _, _, rfl, .inl ⟨_, rfl⟩, q' _ H4 (Same.refl _) ?_⟩
        have := hw i u ho
        exact congrArg V.bl (decide_eq_true ⟨by omega, by omega⟩)
    · obtain ⟨bs, e, hb⟩ := all_yes hp
      refine ⟨D, bs, rfl, sql (by rw [hy, e]), ?_⟩
      rw [hb]
      exact q H2 s1
/-! ### look_land, look_works, look_case: of those that are -/
def sp_look_land (K : PySem.W.Frag) : Sp := fun vs H Q _ => ∃ a L, vs = [.ref a] ∧ SqT K H a (landV L) ∧ L.length < 30 ∧ WfL L ∧ ∀ H', Same H H' → Q .non H'
theorem c_look_land (T : Txt K mg) : Cal P w K mg base CX0 3 "look_land" ["land"] (sp_look_land K) := by
  refine cal0 T.d_look_land sc_look_land (fun _ _ _ _ _ _ us hl => match us, hl with | [_], _ => rfl) (fun vs H Q E h => ?_) (fun f cdv A outer s H vs Q E hr h => ?_)
  · obtain ⟨a, L, rfl, _⟩ := h
    rfl
  · obtain ⟨a, L, rfl, hS, hL, wf, q⟩ := h
    refine ⟨_, (pss_one (ps_if (pt_not (pt_val (pcall (c_is_land T) (hr.mono (by omega)) (pa_cons (pv 0) pa_nil)))) (pss_one ps_never) pss_nil)), ?_⟩
    refine ⟨_, rfl, a, L, rfl, hS, hL, wf, fun H1 s1 => ⟨true, rfl, iteF (q H1 s1)⟩⟩
def sp_look_works (K : PySem.W.Frag) : Sp := fun vs H Q _ => ∃ a c r e, vs = [.ref a, .int ((e : Nat) : Int)] ∧ SqT K H a (worksV c r) ∧ 1 ≤ c ∧ c ≤ 6 ∧ 2 ≤ r ∧ r ≤ 20 ∧ e ≤ c ∧ Q .non H
theorem c_look_works (T : Txt K mg) : Cal P w K mg base CX0 3 "look_works" ["works", "left"] (sp_look_works K) := by
  refine cal0 T.d_look_works sc_look_works (fun _ _ _ _ _ _ us hl => match us, hl with | [_, _], _ => rfl) (fun vs H Q E h => ?_) (fun f cdv A outer s H vs Q E hr h => ?_)
  · obtain ⟨a, c, r, e, rfl, _⟩ := h
    rfl
  · obtain ⟨a, c, r, e, rfl, hS, h1, h2, h3, h4, h5, q⟩ := h
    refine ⟨_, (pss_one (ps_if (PW.pt (pw_or (pt_not (pt_val (pcall (c_is_works T) (hr.mono (by omega)) (pa_cons (pv 0) pa_nil)))) (pw_or1 (pt_not (pt_val (pcall (c_is_whole T) (hr.mono (by omega)) (pa_cons (pv 1) (pa_cons pe_int (pa_cons (pe_ix (ixT K) (pv 0) pe_int (fun _ _ => rfl)) pa_nil))))))))) (pss_one ps_never) pss_nil)), ?_⟩
    refine ⟨_, rfl, a, c, r, rfl, hS, h1, h2, h3, h4, true, rfl, iteF ?_⟩
    refine ⟨_, rfl, _, rfl, a, _, 0, _, rfl, rfl, hS, rfl, _, _, _, rfl, .inl ⟨_, rfl⟩, true, congrArg V.bl (decide_eq_true ⟨by omega, by omega⟩), iteF ?_⟩
    exact q
/-- a land, works, wants, carts left, as they lie -/
structure CaseAt (K : PySem.W.Frag) (H : Hp) (a b d : Addr) (c : Case) (carts : Nat) : Prop where
  l : SqT K H a (landV c.L)
  k : SqT K H b (worksV carts c.room)
  w : SqT K H d (wantsV c.W)
  n : c.L.length < 30
  wf : WfL c.L
  c1 : 1 ≤ carts
  c6 : carts ≤ 6
  r2 : 2 ≤ c.room
  r20 : c.room ≤ 21
  wl : c.W.length = c.L.length + 1
  wo : WantsOk c.W
  lf : c.left ≤ carts
theorem CaseAt.ext {H H' : Hp} {a b d : Addr} {c : Case} {carts : Nat} (h : CaseAt K H a b d c carts) (s : Ext H H') : CaseAt K H' a b d c carts :=
  ⟨s.t h.l, s.t h.k, s.t h.w, h.n, h.wf, h.c1, h.c6, h.r2, h.r20, h.wl, h.wo, h.lf⟩
theorem CaseAt.same {H H' : Hp} {a b d : Addr} {c : Case} {carts : Nat} (h : CaseAt K H a b d c carts) (s : Same H H') : CaseAt K H' a b d c carts := h.ext (ext_of s)
def sp_look_case (K : PySem.W.Frag) : Sp := fun vs H Q _ => ∃ a b d c carts, vs = [.ref a, .ref b, .ref d, .int ((c.left : Nat) : Int)] ∧ CaseAt K H a b d c carts ∧ c.room ≤ 20 ∧ ∀ H', Same H H' → Q .non H'
theorem c_look_case (T : Txt K mg) : Cal P w K mg base CX0 4 "look_case" ["land", "works", "wants", "left"] (sp_look_case K) := by
  refine cal0 T.d_look_case sc_look_case (fun _ _ _ _ _ _ us hl => match us, hl with | [_, _, _, _], _ => rfl) (fun vs H Q E h => ?_) (fun f cdv A outer s H vs Q E hr h => ?_)
  · obtain ⟨a, b, d, c, carts, rfl, _⟩ := h
    rfl
  · obtain ⟨a, b, d, c, carts, rfl, hC, hr20, q⟩ := h
    refine ⟨_, (pss_cons (ps_expr (pcall (c_look_land T) (hr.mono (by omega)) (pa_cons (pv 0) pa_nil)))
      (pss_cons (ps_expr (pcall (c_look_works T) (hr.mono (by omega)) (pa_cons (pv 1) (pa_cons (pv 3) pa_nil))))
      (pss_one (ps_if (pt_not (pt_val (pcall (c_is_wants T) (hr.mono (by omega)) (pa_cons (pv 0) (pa_cons (pv 2) pa_nil))))) (pss_one ps_never) pss_nil)))), ?_⟩
    refine ⟨_, rfl, a, c.L, rfl, hC.l, hC.n, hC.wf, fun H1 s1 => ?_⟩
    refine ⟨_, rfl, _, rfl, b, carts, c.room, c.left, rfl, same_t s1 hC.k, hC.c1, hC.c6, hC.r2, hr20, hC.lf, ?_⟩
    refine ⟨_, rfl, _, rfl, a, d, c.L, c.W, rfl, same_t s1 hC.l, same_t s1 hC.w, hC.wl, hC.n, hC.wo, fun H2 s2 => ?_⟩
    exact ⟨true, rfl, iteF (q H2 (s1.trans s2))⟩
end
end Oa
namespace Oat
/-! ### what the tables of partings are like -/
def Good (left m : Nat) (F : Fnd) : Prop := (F.map (·.1)).Nodup ∧ ∀ e ∈ F, e.1 ≤ left ∧ e.2.2.length = m
theorem mem_dput {α : Type} {F : List (Nat × α)} {k : Nat} {a : α} {x : Nat × α} (h : x ∈ dput F k a) : x ∈ F ∨ x = (k, a) := by
  induction F with
  | nil => exact .inr (List.mem_singleton.mp h)
  | cons y F ih =>
    obtain ⟨j, b⟩ := y
    by_cases e : j = k
    · simp only [dput, if_pos e] at h
      rcases List.mem_cons.mp h with h | h
      · exact .inr (by rw [h, e])
      · exact .inl (List.mem_cons_of_mem _ h)
    · simp only [dput, if_neg e] at h
      rcases List.mem_cons.mp h with h | h
      · exact .inl (by rw [h]; exact List.mem_cons_self)
      · rcases ih h with h | h
        · exact .inl (List.mem_cons_of_mem _ h)
        · exact .inr h
theorem mem_dget {α : Type} {F : List (Nat × α)} {k : Nat} {a : α} (h : dget F k = some a) : (k, a) ∈ F := by
  induction F with
  | nil => cases h
  | cons y F ih =>
    obtain ⟨j, b⟩ := y
    by_cases e : j = k
    · simp only [dget, if_pos e] at h
      rw [← Option.some.inj h, e]
      exact List.mem_cons_self
    · simp only [dget, if_neg e] at h
      exact List.mem_cons_of_mem _ (ih h)
theorem good_nil (left m : Nat) : Good left m [] := ⟨List.nodup_nil, fun _ h => by cases h⟩
theorem good_add {left m used : Nat} {u : Int × List Nat} {acc : Fnd} {s : Nat × Int} (g : Good left (m + 1) acc) (hu : u.2.length = m) : Good left (m + 1) (addRow left used u acc s) := by
  unfold addRow
  split
  · rename_i hle
    refine ⟨Oa.dput_keys _ _ _ g.1, fun e he => ?_⟩
    rcases mem_dput he with h | h
    · exact g.2 e h
    · subst h
      refine ⟨hle, ?_⟩
      show (rmin _ _).2.length = m + 1
      unfold rmin
      have hr : (u.2 ++ [s.1]).length = m + 1 := by simp [hu]
      split
      · exact hr
      · cases z : dget acc (used + s.1) with
        | none => exact hr
        | some o => exact (g.2 _ (mem_dget z)).2
  · exact g
theorem good_inner {left m used : Nat} {u : Int × List Nat} (hu : u.2.length = m) : ∀ (t : List (Nat × Int)) (acc : Fnd), Good left (m + 1) acc → Good left (m + 1) (t.foldl (addRow left used u) acc)
  | [], _, g => g
  | _ :: t, _, g => good_inner hu t _ (good_add g hu)
theorem good_mid {left m : Nat} {t : List (Nat × Int)} : ∀ (F : Fnd) (acc : Fnd), (∀ e ∈ F, e.2.2.length = m) → Good left (m + 1) acc → Good left (m + 1) (F.foldl (fun acc e => t.foldl (addRow left e.1 e.2) acc) acc)
  | [], _, _, g => g
  | e :: F, _, h, g => good_mid F _ (fun e he => h e (List.mem_cons_of_mem _ he)) (good_inner (h e List.mem_cons_self) t _ g)
theorem good_step {left m : Nat} {F : Fnd} {t : List (Nat × Int)} (g : Good left m F) : Good left (m + 1) (stepBest left F t) := good_mid F [] (fun e he => (g.2 e he).2) (good_nil _ _)
theorem good_foldl {left : Nat} : ∀ (ts : List (List (Nat × Int))) (m : Nat) (F : Fnd), Good left m F → Good left (m + ts.length) (ts.foldl (stepBest left) F)
  | [], _, _, g => g
  | t :: ts, m, F, g => by
    have := good_foldl ts (m + 1) _ (good_step (t := t) g)
    rw [List.length_cons, show m + (ts.length + 1) = m + 1 + ts.length by omega]
    exact this
theorem good_bestF (ts : List (List (Nat × Int))) (left : Nat) : Good left ts.length (bestF ts left) := by
  have := good_foldl (left := left) ts 0 [(0, (0, []))] ⟨by simp, fun e he => by simp at he; subst he; exact ⟨Nat.zero_le _, rfl⟩⟩
  rw [Nat.zero_add] at this
  exact this
theorem nodup_le : ∀ (n : Nat) (l : List Nat), l.Nodup → (∀ x ∈ l, x < n) → l.length ≤ n
  | 0, l, _, h => by
    cases l with
    | nil => exact Nat.le_refl _
    | cons x l => exact absurd (h x List.mem_cons_self) (Nat.not_lt_zero _)
  | n + 1, l, nd, h => by
    by_cases m : n ∈ l
    · have := nodup_le n (l.erase n) (nd.erase n) fun x hx => by
        have h1 := h x (List.mem_of_mem_erase hx)
        have h2 : x ≠ n := fun e => by
          subst e
          exact (List.Nodup.not_mem_erase nd) hx
        omega
      rw [List.length_erase_of_mem m] at this
      omega
    · have := nodup_le n l nd fun x hx => by
        have h1 := h x hx
        have h2 : x ≠ n := fun e => m (e ▸ hx)
        omega
      omega
theorem Good.len {left m : Nat} {F : Fnd} (g : Good left m F) : F.length ≤ left + 1 := by
  have := nodup_le (left + 1) (F.map (·.1)) g.1 fun x hx => by
    obtain ⟨e, he, rfl⟩ := List.mem_map.mp hx
    have := (g.2 e he).1
    omega
  simpa using this
theorem best_none {ts : List (List (Nat × Int))} {left : Nat} : best ts left = none ↔ bestF ts left = [] := by
  unfold best
  cases bestF ts left <;> simp
theorem bestF_take {ts : List (List (Nat × Int))} {left i : Nat} {t : List (Nat × Int)} (h : ts[i]? = some t) : bestF (ts.take (i + 1)) left = stepBest left (bestF (ts.take i) left) t := by
  unfold bestF
  rw [List.take_add_one, h, List.foldl_append]
  rfl
/-! ### going out -/
def goes (room : Nat) (need : Int) (e : Nat) : Option Int := if e = 0 ∧ need = 0 then some 0 else outF room need e
theorem outF_pos {room e : Nat} {need o : Int} (hr : 2 ≤ room) (h : outF room need e = some o) : 1 ≤ o ∧ (e : Int) ≤ o := by
  unfold outF at h
  split at h
  · have := Option.some.inj h
    omega
  · rename_i c
    split at h
    · cases h
    · rename_i c2
      have h := Option.some.inj h
      have hp : (0 : Int) < (room : Int) - 2 := by omega
      have h1 : ((e : Int) - need) < (-((max e 1 : Nat) : Int)) * ((room : Int) - 2) := by
        rw [Int.neg_mul]
        omega
      have h2 := Int.ediv_lt_of_lt_mul hp h1
      omega
theorem goes_out {room e : Nat} {need : Int} (hr : 2 ≤ room) : (goes room need e).map (fun t => max t 1) = outF room need e := by
  unfold goes
  split
  · rename_i c
    obtain ⟨rfl, rfl⟩ := c
    unfold outF
    rw [if_pos (by simp; omega)]
    rfl
  · cases h : outF room need e with
    | none => rfl
    | some o =>
      have := outF_pos hr h
      simp only [Option.map_some]
      congr 1
      omega
end Oat
namespace Oa
open PySem PySem.Spec PyProof.Rows L2 Oat
section
variable {P : Program} {w : World} {K : PySem.W.Frag} {mg : Str → Option Value} {base : Heap}
def oiV : Option Int → V
  | none => .non
  | some i => .int i
def sp_going_out : Sp := fun vs H Q _ => ∃ (room left : Nat) (need : Int), vs = [.int (room : Int), .int need, .int (left : Int)] ∧ 2 ≤ room ∧ room ≤ 21 ∧ left ≤ 6 ∧ Q (oiV (goes room need left)) H
theorem c_going_out (T : Txt K mg) : Cal P w K mg base CX0 1 "going_out" ["room", "need", "left"] sp_going_out := by
  refine cal0 T.d_going_out sc_going_out (fun _ _ _ _ _ _ us hl => match us, hl with | [_, _, _], _ => rfl) (fun vs H Q E h => ?_) (fun f cdv A outer s H vs Q E hr h => ?_)
  · obtain ⟨a, L, p, rfl, _⟩ := h
    rfl
  · obtain ⟨room, left, need, rfl, h2, h21, h6, q⟩ := h
    refine ⟨_, (pss_cons (ps_set (i := 3) sc_going_out.nd rfl (Or.inl rfl) (pv 2))
      (pss_cons (ps_if (PW.pt (pw_and (pt_cmpR op_eq (pv 3) pe_int (nomark _)) (pw_and1 (pt_cmpR op_eq (pv 1) pe_int (nomark _))))) (pss_one (ps_ret pe_int)) pss_nil)
      (pss_cons (ps_set (i := 3) sc_going_out.nd rfl (Or.inl rfl) (pe_callB (call_max2 rfl) rfl T.b_max (by decide +kernel) (pa_cons (pv 3) (pa_cons pe_int pa_nil))))
      (pss_cons (ps_if (pt_cmpR op_lt (pe_op op_add (pe_op op_mul (pv 3) (pe_op op_sub (pv 0) pe_int)) (pv 2)) (pv 1) (nomark _)) (pss_cons (ps_if (pt_cmpR op_eq (pv 0) pe_int (nomark _)) (pss_one (ps_ret pe_non)) pss_nil)
      (pss_one (ps_set (i := 3) sc_going_out.nd rfl (Or.inl rfl) (pe_un un_neg (pe_op op_fdiv (pe_op op_sub (pv 2) (pv 1)) (pe_op op_sub (pv 0) pe_int)))))) pss_nil)
      (pss_one (ps_ret (pv 3))))))), ?_⟩
    refine ⟨_, rfl, ?_⟩
    dsimp only [gName]
    refine if0s (b := decide (left = 0) && decide (need = 0)) (t0_and (a := decide (left = 0)) (b := decide (need = 0)) (fun Q' q' => ⟨_, rfl, rfl, _, rfl, ?_⟩) (fun _ Q' q' => ⟨_, rfl, rfl, _, rfl, ?_⟩)) (fun c => ?_) (fun c => ?_)
    · rw [show decide (V.int (left : Int) = V.int 0) = decide (left = 0) from decide_eq_decide.mpr ⟨fun h => by injection h with h; omega, fun h => by rw [h]; rfl⟩]
      exact q'
    · rw [show decide (V.int need = V.int 0) = decide (need = 0) from decide_eq_decide.mpr ⟨fun h => V.int.inj h, fun h => by rw [h]⟩]
      exact q'
    · have c := Bool.and_eq_true_iff.mp c
      have e : goes room need left = some 0 := if_pos ⟨of_decide_eq_true c.1, of_decide_eq_true c.2⟩
      rw [e] at q
      exact q
    · have nz : ¬ (left = 0 ∧ need = 0) := fun z => by
        rw [decide_eq_true z.1, decide_eq_true z.2] at c
        cases c
      have eg : goes room need left = outF room need left := if_neg nz
      rw [eg] at q
      have em : (if (1 : Int) > (left : Int) then (1 : Int) else (left : Int)) = ((max left 1 : Nat) : Int) := by
        split <;> omega
      refine ⟨_, rfl, _, _, rfl, ?_⟩
      show (tSeq _ _) _ [some (.int (room : Int)), some (.int need), some (.int (left : Int)), some (.int (if (1 : Int) > (left : Int) then (1 : Int) else (left : Int)))] H
      rw [em]
      refine ⟨_, rfl, _, rfl, _, _, rfl, rfl, _, _, rfl, rfl, .inl ⟨by omega, by omega⟩, _, rfl, _, _, rfl, rfl, _, rfl, _, _, rfl, rfl, _, rfl, ite2 (fun c => ?_) (fun c => ?_)⟩
      · have c := of_decide_eq_true c
        refine ⟨_, rfl, rfl, _, rfl, ite2 (fun c2 => ?_) (fun c2 => ?_)⟩
        · have c2 : (room : Int) = 2 := V.int.inj (of_decide_eq_true c2)
          have eo : outF room need left = none := by
            unfold outF
            rw [if_neg (by omega), if_pos (by omega)]
          rw [eo] at q
          exact q
        · have c2 : ¬ room = 2 := fun z => c2 (decide_eq_true (by rw [z]; rfl))
          have eo : outF room need left = some (-(((left : Int) - need) / ((room : Int) - 2))) := by
            unfold outF
            rw [if_neg (by omega), if_neg c2]
          rw [eo] at q
          refine ⟨_, rfl, _, rfl, _, _, rfl, rfl, _, rfl, _, _, rfl, rfl, _, _, rfl, rfl, ⟨by omega, by omega⟩, _, rfl, _, rfl, ?_⟩
          exact q
      · have c := of_decide_eq_false (Bool.eq_false_iff.mpr c)
        have eo : outF room need left = some ((max left 1 : Nat) : Int) := by
          unfold outF
          rw [if_pos (by omega)]
        rw [eo] at q
        exact ⟨_, rfl, q⟩
end
end Oa
namespace Oa
open PySem PySem.Spec PyProof.Rows L2 Oat
section
variable {P : Program} {w : World} {K : PySem.W.Frag} {mg : Str → Option Value} {base : Heap}
/-- the head of a row -/
def HeadAt (K : PySem.W.Frag) (H : Hp) (v : V) (t : Int) : Prop := ∃ p xs, v = .ref p ∧ SqT K H p (.int t :: xs)
theorem HeadAt.tx {H H' : Hp} {v : V} {t : Int} (h : HeadAt K H v t) (x : TExt H H') : HeadAt K H' v t := by
  obtain ⟨p, xs, e, h⟩ := h
  exact ⟨p, xs, e, x.t h⟩
/-- a table: a dict from counts to rows, by their heads -/
def TakAt (K : PySem.W.Frag) (H : Hp) (v : V) (tb : List (Nat × Int)) : Prop := ∃ d kvs, v = .ref d ∧ H d = some (.dK kvs) ∧ PairD (HeadAt K H) kvs tb
theorem TakAt.same {H H' : Hp} {v : V} {tb : List (Nat × Int)} (h : TakAt K H v tb) (s : Same H H') : TakAt K H' v tb := by
  obtain ⟨d, kvs, e, hd, hp⟩ := h
  exact ⟨d, kvs, e, s _ _ hd, pd_imp hp fun _ _ q => q.tx (same_tx s)⟩
def bestV (K : PySem.W.Frag) (H : Hp) (o : Option (Int × List Nat)) (v : V) : Prop := match o with
  | none => v = .non
  | some e => RowAt K H v e
def sp_best_parting (K : PySem.W.Frag) : Sp := fun vs H Q _ => ∃ t xs ts left, vs = [.ref t, .int ((left : Nat) : Int)] ∧ SqL K H t xs ∧ Paired (TakAt K H) xs ts ∧ (∀ tb ∈ ts, (tb.map (·.1)).Nodup) ∧ ts.length ≤ 30 ∧ left ≤ 6 ∧
  ∀ v H', Same H H' → bestV K H' (best ts left) v → Q v H'
theorem paired_at {α β : Type} {R : α → β → Prop} : ∀ {xs : List α} {ys : List β} {i : Nat} {x : α}, Paired R xs ys → xs[i]? = some x → ∃ y, ys[i]? = some y ∧ R x y
  | _, _, i, _, .nil, h => by simp at h
  | _, _, 0, x, .cons (b := y) q _, h => ⟨y, rfl, by
      have := Option.some.inj h
      subst this
      exact q⟩
  | _, _, i + 1, x, .cons _ t, h => by
    obtain ⟨y, h1, h2⟩ := paired_at (i := i) t (by simpa using h)
    exact ⟨y, by simpa using h1, h2⟩
theorem foldl_take {α β : Type} {f : β → α → β} {b : β} {xs : List α} {i : Nat} {x : α} (h : xs[i]? = some x) : (xs.take (i + 1)).foldl f b = f ((xs.take i).foldl f b) x := by
  rw [List.take_add_one, h, List.foldl_append]
  rfl
theorem c_best_parting (T : Txt K mg) : Cal P w K mg base CX0 1 "best_parting" ["tables", "left"] (sp_best_parting K) := by
  refine cal0 T.d_best_parting sc_best_parting (fun _ _ _ _ _ _ us hl => match us, hl with | [_, _], _ => rfl) (fun vs H Q E h => ?_) (fun f cdv A outer s H vs Q E hr h => ?_)
  · obtain ⟨t, xs, ts, left, rfl, _⟩ := h
    rfl
  · obtain ⟨t, xs, ts, left, rfl, hS, hT, nds, h30, h6, q⟩ := h
    refine ⟨_, (pss_cons (ps_set (i := 2) sc_best_parting.nd rfl (Or.inr rfl) (pe_disp (pps_cons pe_int (pe_tup (pa_cons pe_int (pa_cons (pe_tup pa_nil) pa_nil))) pps_nil) rfl rfl (fun z => by cases z) (by decide)))
      (pss_cons (ps_for PassesOwn.never rfl (piL K (pv 0)) (pg_name (i := 3) sc_best_parting.nd rfl (Or.inl rfl)) (pss_cons (ps_set (i := 4) sc_best_parting.nd rfl (Or.inl rfl) pe_dnewK)
      (pss_cons (ps_lock (ps_for PassesOwn.never rfl (pi_keys (pv 2)) (pg_name (i := 5) sc_best_parting.nd rfl (Or.inl rfl)) (pss_one (ps_lock (ps_for PassesOwn.never rfl (pi_keys (pv 3)) (pg_name (i := 6) sc_best_parting.nd rfl (Or.inl rfl)) (pss_one (ps_if (pt_cmpR op_le (pe_op op_add (pv 5) (pv 6)) (pv 1) (nomark _)) (pss_cons (ps_set (i := 7) sc_best_parting.nd rfl (Or.inl rfl) (pe_tup (pa_cons (pe_op op_add (pe_ix (ixT K) (pe_dget (hu_of hr) (pv 2) (pv 5) (fun _ _ => rfl)) pe_int (fun _ _ => rfl)) (pe_ix (ixT K) (pe_dget (hu_of hr) (pv 3) (pv 6) (fun _ _ => rfl)) pe_int (fun _ _ => rfl))) (pa_cons (pe_op (catA K) (pe_ix (ixT K) (pe_dget (hu_of hr) (pv 2) (pv 5) (fun _ _ => rfl)) pe_int (fun _ _ => rfl)) (pe_tup (pa_cons (pv 6) pa_nil))) pa_nil))))
      (pss_one (ps_dput (hu_of hr) (pv 4) (pe_op op_add (pv 5) (pv 6)) (pe_callB (min2R K rfl hr.units) rfl T.b_min (by decide +kernel) (pa_cons (pe_dget2 (hu_of hr) (pv 4) (pe_op op_add (pv 5) (pv 6)) (pv 7) (by constructor <;> rfl)) (pa_cons (pv 7) pa_nil))) rfl))) pss_nil)))))))
      (pss_one (ps_set (i := 2) sc_best_parting.nd rfl (Or.inr rfl) (pv 4))))))
      (pss_one (ps_ret (pe_ifExp (pt_cmpR (op_neE hr.units0) (pv 2) pe_dnewK (nomark _)) (pe_callB (minLR K rfl hr.units) rfl T.b_min (by decide +kernel) (pa_cons (pe_lock (pe_lc (own := [("used", 5)]) (g := gName 5) rfl sc_best_parting.nd (pi_keys (pv 2)) (blkOk_by (own := [("used", 5)]) (N := ["tables", "left", "found", "table", "fresh", "used", "some", "row"]) (sc := (defScope s_best_parting)) (by decide +kernel)) (fun _ _ _ _ _ => pg_name (i := 5) sc_best_parting.nd rfl (Or.inl rfl)) (fun _ _ _ _ _ => pts_nil) (fun _ _ _ _ _ => (pe_dget (hu_of hr) (pv 2) (pv 5) (fun _ _ => rfl))))) pa_nil)) pe_non))))), ?_⟩
    -- found = {0: (0, ())}
    refine fun fa nfa => ?_
    refine ⟨Nat.zero_le _, fun e0 ne0 => ⟨(by show 2 ≤ sizeLine; decide), fun r0 nr0 => ?_⟩⟩
    have n1 : fa ≠ e0 := ne_of_none upd_same ne0
    have n2 : fa ≠ r0 := ne_of_none (show (upd (upd H fa (.dK [])) e0 (.tup [])) fa = some (.dK []) by rw [upd_ne n1, upd_same]) nr0
    have n3 : e0 ≠ r0 := ne_of_none upd_same nr0
    refine ⟨by rw [upd_ne n2, upd_ne n1, upd_same], [(.inl 0, .ref r0)], rfl, (by show 1 ≤ 15; decide), ?_⟩
    have s0 : Same H (upd (upd (upd (upd H fa (.dK [])) e0 (.tup [])) r0 (.tup [.int 0, .ref e0])) fa (.dK (mergeK [] [(.inl 0, .ref r0)]))) := by
      refine same_mut (((same_new nfa).trans (same_new ne0)).trans (same_new nr0)) nfa
    have f0 : (upd (upd (upd (upd H fa (.dK [])) e0 (.tup [])) r0 (.tup [.int 0, .ref e0])) fa (.dK (mergeK [] [(.inl 0, .ref r0)]))) fa = some (.dK [(.inl 0, .ref r0)]) := upd_same
    have g1 : (upd (upd (upd (upd H fa (.dK [])) e0 (.tup [])) r0 (.tup [.int 0, .ref e0])) fa (.dK (mergeK [] [(.inl 0, .ref r0)]))) r0 = some (.tup [.int 0, .ref e0]) := by rw [upd_ne n2.symm, upd_same]
    have g2 : (upd (upd (upd (upd H fa (.dK [])) e0 (.tup [])) r0 (.tup [.int 0, .ref e0])) fa (.dK (mergeK [] [(.inl 0, .ref r0)]))) e0 = some (.tup []) := by rw [upd_ne n1.symm, upd_ne n3, upd_same]
    revert s0 f0 g1 g2
    generalize (upd (upd (upd (upd H fa (.dK [])) e0 (.tup [])) r0 (.tup [.int 0, .ref e0])) fa (.dK (mergeK [] [(.inl 0, .ref r0)]))) = H1
    intro s0 f0 g1 g2
    have r0' : RowAt K H1 (.ref r0) (0, []) := ⟨r0, e0, rfl, sqt g1, sqt g2⟩
    -- for table in tables
    refine ⟨_, rfl, t, rfl, ⟨_, same_l s0 hS⟩, ?_⟩
    refine for_it (walk_list (xs := xs)) (fun i σ H2 => ∃ fa kvs y3 y4 y5 y6 y7, σ = [some (.ref t), some (.int ((left : Nat) : Int)), some (.ref fa), y3, y4, y5, y6, y7] ∧ Same H H2 ∧ H fa = none ∧ H2 fa = some (.dK kvs) ∧ PairD (RowAt K H2) kvs (bestF (ts.take i) left))
      ⟨fa, _, none, none, none, none, none, rfl, s0, nfa, f0, .cons ⟨rfl, r0'⟩ .nil⟩ (fun i σ H2 _ p => ?_) (fun i x σ H2 H3 hi p y => ?_) (fun σ H2 p => ?_)
    · obtain ⟨_, _, _, _, _, _, _, _, s1, _⟩ := p
      exact same_l s1 hS
    · obtain ⟨fa, kvs, y3, y4, y5, y6, y7, rfl, s1, nfa, f1, pd⟩ := p
      obtain ⟨rfl, hx⟩ := y
      obtain ⟨tb, htb, tk⟩ := paired_at hT hx
      obtain ⟨d, ktb, rfl, hd, pt⟩ := tk
      have ndt := nds tb (List.mem_of_getElem? htb)
      have gF := good_bestF (ts.take i) left
      have lF : (ts.take i).length ≤ 30 := by rw [List.length_take]; omega
      generalize hFe : bestF (ts.take i) left = F at pd gF
      -- fresh = {}
      refine fun fr nfr => ?_
      have nfd : fa ≠ d := fun e => by rw [e, hd] at nfa; cases nfa
      have nrd : fr ≠ d := fun e => by rw [e, s1 _ _ hd] at nfr; cases nfr
      have nfr2 : fa ≠ fr := ne_of_none f1 nfr
      have nfrH : H fr = none := s1.free nfr
      -- for used in found
      refine ⟨fa, .dK kvs, by rw [upd_ne nfr2]; exact f1, trivial, fun od => ?_⟩
      refine ⟨_, rfl, fa, od, rfl, .inl ⟨kvs, upd_same, ?_⟩⟩
      refine for_it walk_keys (fun j σ H4 => ∃ kfr y5 y6 y7, σ = [some (.ref t), some (.int ((left : Nat) : Int)), some (.ref fa), some (.ref d), some (.ref fr), y5, y6, y7] ∧ Same H H4 ∧ H4 fa = some (.frz od (.dK kvs)) ∧ H4 fr = some (.dK kfr) ∧
          PairD (RowAt K H4) kvs F ∧ PairD (RowAt K H4) kfr ((F.take j).foldl (fun acc e => tb.foldl (addRow left e.1 e.2) acc) []))
        ⟨[], y5, y6, y7, rfl, same_mut (same_mut s1 nfrH) nfa, upd_same, by rw [upd_ne nfr2.symm, upd_same], pd_imp pd fun _ _ z => z.tx ((same_tx (same_new nfr)).trans (tx_upd (by rw [upd_ne nfr2, f1]; trivial))), .nil⟩
        (fun j σ H4 _ p => ?_) (fun j x σ H4 H5 hj p y => ?_) (fun σ H4 p => ?_)
      · obtain ⟨_, _, _, _, _, _, z, _⟩ := p
        exact z
      · obtain ⟨kfr, y5, y6, y7, rfl, s2, f2, r2, pdF, pdR⟩ := p
        obtain ⟨rfl, k, v, hk, rfl⟩ := y
        obtain ⟨used, u, hu, rfl, ru⟩ := pd_at pdF hk
        have lu : u.2.length = (ts.take i).length := (gF.2 _ (List.mem_of_getElem? hu)).2
        have gR : Good left ((ts.take i).length + 1) ((F.take j).foldl (fun acc e => tb.foldl (addRow left e.1 e.2) acc) []) :=
          good_mid _ _ (fun e he => (gF.2 e (List.mem_of_mem_take he)).2) (good_nil _ _)
        have du : dget F used = some u := dget_at gF.1 hu
        rw [foldl_take hu]
        generalize ((F.take j).foldl (fun acc e => tb.foldl (addRow left e.1 e.2) acc) []) = acc0 at pdR gR
        -- for some in table
        refine ⟨d, .dK ktb, s2 _ _ hd, trivial, fun od2 => ?_⟩
        refine ⟨_, rfl, d, od2, rfl, .inl ⟨ktb, upd_same, ?_⟩⟩
        have x3 : TExt H5 (upd H5 d (.frz od2 (.dK ktb))) := tx_upd (by rw [s2 _ _ hd]; trivial)
        refine for_it walk_keys (fun m σ H6 => ∃ kfr y6 y7, σ = [some (.ref t), some (.int ((left : Nat) : Int)), some (.ref fa), some (.ref d), some (.ref fr), some (.int ((used : Nat) : Int)), y6, y7] ∧ SameBut d H H6 ∧ H6 d = some (.frz od2 (.dK ktb)) ∧ H6 fa = some (.frz od (.dK kvs)) ∧
            H6 fr = some (.dK kfr) ∧ PairD (RowAt K H6) kvs F ∧ PairD (HeadAt K H6) ktb tb ∧ PairD (RowAt K H6) kfr ((tb.take m).foldl (addRow left used u) acc0))
          ⟨kfr, y6, y7, rfl, fun b o hb e => by rw [upd_ne hb]; exact s2 b o e, upd_same, by rw [upd_ne nfd]; exact f2, by rw [upd_ne nrd]; exact r2, pd_imp pdF fun _ _ z => z.tx x3, pd_imp pt fun _ _ z => z.tx ((same_tx s2).trans x3), pd_imp pdR fun _ _ z => z.tx x3⟩
          (fun m σ H6 _ p => ?_) (fun m x σ H6 H7 hm p y => ?_) (fun σ H6 p => ?_)
        · obtain ⟨_, _, _, _, _, z, _⟩ := p
          exact z
        · obtain ⟨kfr, y6, y7, rfl, s3, f3, f4, r3, pF, pT, pR⟩ := p
          obtain ⟨rfl, k, v, hk2, rfl⟩ := y
          obtain ⟨some', tv, hs, rfl, rv⟩ := pd_at pT hk2
          have ds : dget tb some' = some tv := dget_at ndt hs
          have gR2 : Good left ((ts.take i).length + 1) ((tb.take m).foldl (addRow left used u) acc0) := good_inner lu _ _ gR
          rw [foldl_take hs]
          generalize ((tb.take m).foldl (addRow left used u) acc0) = acc at pR gR2
          have lacc : acc.length ≤ left + 1 := gR2.len
          -- if used + some <= left
          refine ⟨_, rfl, _, rfl, _, _, rfl, rfl, _, rfl, _, _, rfl, rfl, _, rfl, ite2 (fun c => ?_) (fun c => ?_)⟩
          · have c' : ((used : Nat) : Int) + ((some' : Nat) : Int) ≤ ((left : Nat) : Int) := of_decide_eq_true c
            have c2 : used + some' ≤ left := by omega
            have ek : ((used : Nat) : Int) + ((some' : Nat) : Int) = ((used + some' : Nat) : Int) := by omega
            obtain ⟨v1, hv1, p1, q1, rfl, t1, t2⟩ := (pd_get used pF).2 u du
            obtain ⟨v2, hv2, p2, xs2, rfl, t3⟩ := (pd_get some' pT).2 tv ds
            -- row = (..)
            refine ⟨_, rfl, _, rfl, fa, _, rfl, .inl ⟨kvs, .inl _, .inr ⟨od, f4⟩, rfl, hv1.symm⟩, p1, _, 0, _, rfl, rfl, t1, rfl, ?_⟩
            refine ⟨_, rfl, _, rfl, d, _, rfl, .inl ⟨ktb, .inl _, .inr ⟨od2, f3⟩, rfl, hv2.symm⟩, p2, _, 0, _, rfl, rfl, t3, atI_nat (j := 0) rfl, _, _, rfl, rfl, ?_⟩
            refine ⟨_, rfl, _, rfl, fa, _, rfl, .inl ⟨kvs, .inl _, .inr ⟨od, f4⟩, rfl, hv1.symm⟩, p1, _, 1, _, rfl, rfl, t1, rfl, ?_⟩
            refine ⟨_, rfl, (by show 1 ≤ sizeLine; decide), fun w1 nw1 => ?_⟩
            have sw : Same H7 (upd H7 w1 (.tup [.int ((some' : Nat) : Int)])) := same_new nw1
            have key : ∀ (D : Ends) (hD : ∀ σ H6, (∃ kfr y6 y7, σ = [some (.ref t), some (.int ((left : Nat) : Int)), some (.ref fa), some (.ref d), some (.ref fr), some (.int ((used : Nat) : Int)), y6, y7] ∧ SameBut d H H6 ∧ H6 d = some (.frz od2 (.dK ktb)) ∧ H6 fa = some (.frz od (.dK kvs)) ∧
                      H6 fr = some (.dK kfr) ∧ PairD (RowAt K H6) kvs F ∧ PairD (HeadAt K H6) ktb tb ∧ PairD (RowAt K H6) kfr (addRow left used u acc (some', tv))) → D.nx σ H6) (w2 : Addr) (H8 : Hp), Same H7 H8 → SqT K H8 w2 ((u.2 ++ [some']).map fun (n : Nat) => V.int (n : Int)) → ∀ w3, H8 w3 = none →
                (sDPut (tVar 4) (tOp (rI0 fun i j => .int (i + j)) (tVar 5) (tVar 6)) (tCB (rMin2R K) (tCons (tDGet2 (tVar 4) (tOp (rI0 fun i j => .int (i + j)) (tVar 5) (tVar 6)) (tVar 7)) (tCons (tVar 7) tNil))))
                    D [some (.ref t), some (.int ((left : Nat) : Int)), some (.ref fa), some (.ref d), some (.ref fr), some (.int ((used : Nat) : Int)), some (.int ((some' : Nat) : Int)), some (.ref w3)] (upd H8 w3 (.tup [.int (u.1 + tv), .ref w2])) := by
              intro D hD w2 H8 s8 t8 w3 nw3
              have s9 : Same H7 (upd H8 w3 (.tup [.int (u.1 + tv), .ref w2])) := s8.trans (same_new nw3)
              have rw' : RowAt K (upd H8 w3 (.tup [.int (u.1 + tv), .ref w2])) (.ref w3) (u.1 + tv, u.2 ++ [some']) := ⟨w3, w2, rfl, sqt upd_same, same_t (same_new nw3) t8⟩
              generalize (upd H8 w3 (.tup [.int (u.1 + tv), .ref w2])) = H9 at s9 rw'
              have r9 : H9 fr = some (.dK kfr) := s9 _ _ r3
              have pR9 : PairD (RowAt K H9) kfr acc := pd_imp pR fun _ _ z => z.tx (same_tx s9)
              have gg := pd_get (used + some') pR9
              have put : ∀ v e, RowAt K H9 v e → e = rmin ((dget acc (used + some')).getD (u.1 + tv, u.2 ++ [some'])) (u.1 + tv, u.2 ++ [some']) →
                  ∃ kfr' y6 y7', ([some (.ref t), some (.int ((left : Nat) : Int)), some (.ref fa), some (.ref d), some (.ref fr), some (.int ((used : Nat) : Int)), some (.int ((some' : Nat) : Int)), some (.ref w3)] : L2.St) = [some (.ref t), some (.int ((left : Nat) : Int)), some (.ref fa), some (.ref d), some (.ref fr), some (.int ((used : Nat) : Int)), y6, y7'] ∧ SameBut d H (upd H9 fr (.dK (putK kfr (.inl ((used + some' : Nat) : Int)) v))) ∧ (upd H9 fr (.dK (putK kfr (.inl ((used + some' : Nat) : Int)) v))) d = some (.frz od2 (.dK ktb)) ∧ (upd H9 fr (.dK (putK kfr (.inl ((used + some' : Nat) : Int)) v))) fa = some (.frz od (.dK kvs)) ∧
                      (upd H9 fr (.dK (putK kfr (.inl ((used + some' : Nat) : Int)) v))) fr = some (.dK kfr') ∧ PairD (RowAt K (upd H9 fr (.dK (putK kfr (.inl ((used + some' : Nat) : Int)) v)))) kvs F ∧ PairD (HeadAt K (upd H9 fr (.dK (putK kfr (.inl ((used + some' : Nat) : Int)) v)))) ktb tb ∧ PairD (RowAt K (upd H9 fr (.dK (putK kfr (.inl ((used + some' : Nat) : Int)) v)))) kfr' (addRow left used u acc (some', tv)) := by
                intro v e hv he
                have x9 : TExt H9 (upd H9 fr (.dK (putK kfr (.inl ((used + some' : Nat) : Int)) v))) := tx_upd (by rw [r9]; trivial)
                refine ⟨_, _, _, rfl, fun b o hb e => ?_, by rw [upd_ne nrd.symm]; exact s9 _ _ f3, by rw [upd_ne nfr2]; exact s9 _ _ f4, upd_same, pd_imp pF fun _ _ z => z.tx ((same_tx s9).trans x9), pd_imp pT fun _ _ z => z.tx ((same_tx s9).trans x9), ?_⟩
                · rw [upd_ne (ne_of_none e nfrH)]
                  exact s9 _ _ (s3 b o hb e)
                · have ea : addRow left used u acc (some', tv) = dput acc (used + some') e := by
                    unfold addRow
                    rw [if_pos c2, he]
                  rw [ea]
                  exact pd_put gR2.1 (pd_imp pR9 fun _ _ z => z.tx x9) (hv.tx x9)
              refine ⟨_, rfl, fr, rfl, .inl ⟨kfr, .inl r9⟩, _, rfl, _, rfl, _, _, rfl, rfl, _, rfl, valV kfr (.inl ((used + some' : Nat) : Int)), .inl ⟨kfr, .inl ((used + some' : Nat) : Int), .inl r9, congrArg V.int ek, rfl⟩, ?_⟩
              cases hg : dget acc (used + some') with
              | none =>
                rw [gg.1 hg]
                refine ⟨_, rfl, _, _, _, _, rfl, rw'.dp, rw'.dp, _, rfl, _, rfl, _, rfl, _, _, rfl, rfl, fr, _, rfl, .inl ⟨kfr, .inl ((used + some' : Nat) : Int), r9, congrArg V.int ek, Nat.lt_of_le_of_lt (show kfr.length ≤ 1000 by rw [pd_len pR9]; omega) (small1000 (Nat.le_refl _)), rfl⟩, ?_⟩
                have ev : (if rlt (u.1 + tv, u.2 ++ [some']) (u.1 + tv, u.2 ++ [some']) = true then V.ref w3 else V.ref w3) = V.ref w3 := by split <;> rfl
                exact hD _ _ (ev.symm ▸ put (.ref w3) _ rw' (by rw [hg]; unfold rmin; split <;> rfl))
              | some old =>
                obtain ⟨vo, hvo, ro⟩ := gg.2 old hg
                rw [hvo]
                refine ⟨_, rfl, _, _, _, _, rfl, ro.dp, rw'.dp, _, rfl, _, rfl, _, rfl, _, _, rfl, rfl, fr, _, rfl, .inl ⟨kfr, .inl ((used + some' : Nat) : Int), r9, congrArg V.int ek, Nat.lt_of_le_of_lt (show kfr.length ≤ 1000 by rw [pd_len pR9]; omega) (small1000 (Nat.le_refl _)), rfl⟩, ?_⟩
                refine hD _ _ (put _ (rmin old (u.1 + tv, u.2 ++ [some'])) ?_ (by rw [hg]; rfl))
                unfold rmin
                split
                · exact rw'
                · exact ro
            refine ⟨q1, w1, _, _, rfl, rfl, same_t sw t2, sqt upd_same, ?_, fun e => ⟨(by show 2 ≤ sizeLine; decide), fun w3 nw3 => ?_⟩, fun _ z => (List.cons_ne_nil _ _ z).elim, fun ne _ p np => ⟨(by show 2 ≤ sizeLine; decide), fun w3 nw3 => ?_⟩⟩
            · rw [List.length_map, lu]
              exact Nat.le_trans (show (ts.take i).length + 1 ≤ 1000 by omega) (Nat.le_of_lt (small1000 (Nat.le_refl _)))
            · dsimp only [gName]
              refine key _ (fun _ _ h => h) w1 _ sw (sqt ?_) w3 nw3
              rw [upd_same]
              have : u.2 = [] := by simpa using e
              rw [this]
              rfl
            · dsimp only [gName]
              refine key _ (fun _ _ h => h) p _ (sw.trans (same_new np)) (sqt ?_) w3 nw3
              rw [upd_same, List.map_append]
              rfl
          · have c' : ¬ ((used : Nat) : Int) + ((some' : Nat) : Int) ≤ ((left : Nat) : Int) := of_decide_eq_false (Bool.eq_false_iff.mpr c)
            refine ⟨kfr, _, y7, rfl, s3, f3, f4, r3, pF, pT, ?_⟩
            unfold addRow
            rw [if_neg (by show ¬ used + some' ≤ left; omega)]
            exact pR
        · obtain ⟨kfr, y6, y7, rfl, s3, f3, f4, r3, pF, pT, pR⟩ := p
          refine ⟨f3, ?_⟩
          have hlen : ktb.length = tb.length := pd_len pT
          rw [hlen, List.take_length] at pR
          have x4 : TExt H6 (upd H6 d (.dK ktb)) := tx_upd (by rw [f3]; trivial)
          refine ⟨kfr, _, y6, y7, rfl, fun b o e => ?_, by rw [upd_ne nfd]; exact f4, by rw [upd_ne nrd]; exact r3, pd_imp pF fun _ _ z => z.tx x4, pd_imp pR fun _ _ z => z.tx x4⟩
          by_cases hb : b = d
          · subst hb
            rw [hd] at e
            cases e
            exact upd_same
          · rw [upd_ne hb]
            exact s3 b o hb e
      · obtain ⟨kfr, y5, y6, y7, rfl, s2, f2, r2, pdF, pdR⟩ := p
        refine ⟨f2, ?_⟩
        have hlen : kvs.length = F.length := pd_len pdF
        rw [hlen, List.take_length] at pdR
        have x4 : TExt H4 (upd H4 fa (.dK kvs)) := tx_upd (by rw [f2]; trivial)
        refine ⟨_, rfl, ?_⟩
        refine ⟨fr, kfr, _, _, _, _, _, rfl, same_mut s2 nfa, nfrH, by rw [upd_ne nfr2.symm]; exact r2, ?_⟩
        rw [bestF_take htb, hFe]
        exact pd_imp pdR fun _ _ z => z.tx x4
    · obtain ⟨fa, kvs, y3, y4, y5, y6, y7, rfl, s1, nfa, f1, pd⟩ := p
      have ex : xs.length = ts.length := Paired.length hT
      rw [ex, List.take_length] at pd
      have gF := good_bestF ts left
      -- found != {}
      refine ⟨_, rfl, fun e0 ne0 => ?_⟩
      have s2 : Same H2 (upd H2 e0 (.dK [])) := same_new ne0
      refine ⟨fa, e0, kvs, rfl, rfl, s2 _ _ f1, upd_same, _, rfl, ?_⟩
      cases hF : bestF ts left with
      | nil =>
        rw [hF] at pd
        cases pd
        refine iteF (q _ _ (s1.trans s2) ?_)
        rw [best_none.mpr hF]
        rfl
      | cons e F =>
        have hk : kvs ≠ [] := fun z => by
          rw [z, hF] at pd
          cases pd
        have hk2 : (!kvs.isEmpty) = true := by
          cases kvs with
          | nil => exact absurd rfl hk
          | cons _ _ => rfl
        rw [hk2]
        refine iteT ?_
        have f2 := s2 _ _ f1
        have pd2 : PairD (RowAt K (upd H2 e0 (.dK []))) kvs (bestF ts left) := pd_imp pd fun _ _ z => z.tx (same_tx s2)
        have s3 := s1.trans s2
        generalize (upd H2 e0 (.dK [])) = H3 at f2 pd2 s3
        -- [found[used] for used in found]
        refine ⟨fa, .dK kvs, f2, trivial, fun od => ?_⟩
        have x3 : TExt H3 (upd H3 fa (.frz od (.dK kvs))) := tx_upd (by rw [f2]; trivial)
        refine ⟨_, rfl, fa, od, rfl, .inl ⟨kvs, upd_same, fun D hD => ?_⟩⟩
        refine lc_rel walk_keys hD (by rw [pd_len pd2]; have := gF.len; omega) (fun H' s => s _ _ upd_same) (fun i => true) (fun i v H' => ∃ e, (bestF ts left)[i]? = some e ∧ RowAt K H' v e.2)
          (fun i v H4 H5 l hl sb r => ?_) (fun i x H4 H5 l hi s4 hy y => ?_) (fun ys H4 s4 hy hp => ?_)
        · obtain ⟨e, he, r⟩ := r
          refine ⟨e, he, r.tx fun a xs z => ?_⟩
          have hne : a ≠ D := by
            rintro rfl
            rcases z with z | ⟨ob, z⟩
            · rw [hl] at z
              cases z
            · rw [hl] at z
              cases z
          rcases z with z | ⟨ob, z⟩
          · exact .inl (sb _ _ hne z)
          · exact .inr ⟨ob, sb _ _ hne z⟩
        · obtain ⟨rfl, k, v, hk, rfl⟩ := y
          obtain ⟨n, e, he, rfl, re⟩ := pd_at pd2 hk
          have dg : dget (bestF ts left) n = some e := dget_at gF.1 he
          obtain ⟨v1, hv1, r1⟩ := (pd_get n pd2).2 e dg
          refine ⟨Same.refl _, rfl, fun Q' q' => q' H5 (Same.refl _), fun _ H6 s6 Q' q' => ?_⟩
          refine ⟨_, rfl, _, rfl, fa, v1, rfl, .inl ⟨kvs, .inl _, .inr ⟨od, (s4.trans s6) _ _ upd_same⟩, rfl, hv1.symm⟩, ?_⟩
          exact q' v1 H6 (Same.refl _) ⟨_, he, r1.tx (x3.trans ((same_tx s4).trans (same_tx s6)))⟩
        · refine ⟨s4 _ _ upd_same, ?_⟩
          have hfz : H4 fa = some (.frz od (.dK kvs)) := s4 _ _ upd_same
          have x4 : TExt H4 (upd H4 fa (.dK kvs)) := tx_upd (by rw [hfz]; trivial)
          have hDf : D ≠ fa := fun e => by rw [e, upd_same] at hD; cases hD
          have hpr : Paired (fun v e => Dp K (upd H4 fa (.dK kvs)) v (rowD e)) ys ((bestF ts left).map (·.2)) := by
            have h0 : (List.range kvs.length).filter (fun _ => true) = List.range kvs.length := by simp
            rw [h0, pd_len pd2] at hp
            have : ∀ (F G : Fnd) (ys : List V), Paired (fun i v => ∃ e, (F ++ G)[i]? = some e ∧ RowAt K H4 v e.2) (List.range' F.length G.length) ys → Paired (fun v e => Dp K (upd H4 fa (.dK kvs)) v (rowD e)) ys (G.map (·.2)) := by
              intro F G
              induction G generalizing F with
              | nil => intro ys h; cases h; exact .nil
              | cons g G ih =>
                intro ys h
                rw [List.length_cons, List.range'_succ] at h
                cases h with
                | cons a b =>
                  obtain ⟨e, he, r⟩ := a
                  have e1 : e = g := by
                    rw [List.getElem?_append_right (Nat.le_refl _), Nat.sub_self] at he
                    exact (Option.some.inj he).symm
                  subst e1
                  refine .cons (r.tx x4).dp (ih (F ++ [e]) _ ?_)
                  rw [List.append_assoc, List.length_append]
                  exact b
            have := this [] (bestF ts left) ys (by rw [List.nil_append, List.length_nil, ← List.range_eq_range']; exact hp)
            exact this
          rw [hF, List.map_cons] at hpr
          refine ⟨D, ys, e.2, _, rfl, sql (by rw [upd_ne hDf]; exact hy), hpr, fun v hv => ?_⟩
          refine q v _ (s3.trans (lock_same f2 s4)) ?_
          have eb : best ts left = some ((F.map (·.2)).foldl rmin e.2) := by
            unfold best
            rw [hF, List.foldl_map]
          rw [eb]
          exact rowAt_dp hv
end
end Oa
namespace Oat
/-! ### is_called, from behind -/
def callAt (L : List Nat) (W : List (Option Nat)) (j q : Nat) : Bool := (W.getD q none).isSome || (kids L q).any fun k => decide (j ≤ k) && wanted L W k
theorem callAt_own {L : List Nat} {W : List (Option Nat)} (wf : WfL L) {k : Nat} (hk : k ≤ L.length) : callAt L W (k + 1) k = wanted L W k := by
  rw [wanted_eq wf hk]
  unfold callAt
  congr 1
  rw [Bool.eq_iff_iff, List.any_eq_true, List.any_eq_true]
  constructor
  · rintro ⟨x, hx, e⟩
    exact ⟨x, hx, (Bool.and_eq_true_iff.mp e).2⟩
  · rintro ⟨x, hx, e⟩
    have := kids_gt wf hx
    exact ⟨x, hx, by rw [e, decide_eq_true (by omega)]; rfl⟩
theorem callAt_low {L : List Nat} {W : List (Option Nat)} (wf : WfL L) {p : Nat} (hp : p ≤ L.length) : callAt L W 1 p = wanted L W p := by
  rw [wanted_eq wf hp]
  unfold callAt
  congr 1
  rw [Bool.eq_iff_iff, List.any_eq_true, List.any_eq_true]
  constructor
  · rintro ⟨x, hx, e⟩
    exact ⟨x, hx, (Bool.and_eq_true_iff.mp e).2⟩
  · rintro ⟨x, hx, e⟩
    have := kids_gt wf hx
    exact ⟨x, hx, by rw [e, decide_eq_true (by omega)]; rfl⟩
theorem callAt_top {L : List Nat} {W : List (Option Nat)} (wf : WfL L) (q : Nat) : callAt L W (L.length + 1) q = (W.getD q none).isSome := by
  unfold callAt
  have : ((kids L q).any fun k => decide (L.length + 1 ≤ k) && wanted L W k) = false := by
    rw [Bool.eq_false_iff]
    intro h
    obtain ⟨x, hx, e⟩ := List.any_eq_true.mp h
    have := kids_gt wf hx
    have := of_decide_eq_true (Bool.and_eq_true_iff.mp e).1
    omega
  rw [this, Bool.or_false]
/-- one turn: place i + 1 -/
theorem callAt_turn {L : List Nat} {W : List (Option Nat)} {i : Nat} (hi : i < L.length) (q : Nat) : callAt L W (i + 1) q = (callAt L W (i + 2) q || (decide (L.getD i 0 = q) && wanted L W (i + 1))) := by
  unfold callAt
  rw [Bool.or_assoc]
  congr 1
  rw [Bool.eq_iff_iff, Bool.or_eq_true, List.any_eq_true, List.any_eq_true]
  simp only [Bool.and_eq_true, decide_eq_true_eq]
  constructor
  · rintro ⟨x, hx, h1, h2⟩
    by_cases e : x = i + 1
    · subst e
      obtain ⟨j, h3, h4, h5⟩ := mem_kids.mp hx
      have : j = i := by omega
      subst this
      exact .inr ⟨h4, h2⟩
    · exact .inl ⟨x, hx, by omega, h2⟩
  · rintro (⟨x, hx, h1, h2⟩ | ⟨h1, h2⟩)
    · exact ⟨x, hx, by omega, h2⟩
    · exact ⟨i + 1, mem_kids.mpr ⟨i, hi, h1, rfl⟩, Nat.le_refl _, h2⟩
end Oat
namespace Oa
open PySem PySem.Spec PyProof.Rows L2 Oat
section
variable {P : Program} {w : World} {K : PySem.W.Frag} {mg : Str → Option Value} {base : Heap}
/-! ### own_need -/
theorem wantsV_get {W : List (Option Nat)} {p : Nat} (h : p < W.length) : (wantsV W)[p]? = some (optV (W.getD p none)) := by
  unfold wantsV
  rw [List.getElem?_map, List.getElem?_eq_getElem h]
  simp [h]
theorem orz {H : Hp} {W : List (Option Nat)} {p : Nat} {tb : TE} {σ : L2.St} {Q : VK} (hb : ∀ Q' : VK, Q' (.int 0) H → tb σ H Q') (q : Q (.int (wantN W p)) H) :
    ∃ k, TruV K (optV (W.getD p none)) H k ∧ if k = true then Q (optV (W.getD p none)) H else tb σ H Q := by
  unfold wantN at q
  cases e : W.getD p none with
  | none =>
    rw [e] at q
    exact ⟨false, rfl, iteF (hb _ q)⟩
  | some u =>
    rw [e] at q
    by_cases hu : u = 0
    · subst hu
      exact ⟨false, rfl, iteF (hb _ q)⟩
    · refine ⟨true, ?_, iteT q⟩
      show true = (((u : Nat) : Int) != 0)
      simp [hu]
def sp_own_need (K : PySem.W.Frag) : Sp := fun vs H Q _ => ∃ t xs ts left d W p, vs = [.int ((p : Nat) : Int), .ref d, .ref t, .int ((left : Nat) : Int)] ∧ SqT K H d (wantsV W) ∧ p < W.length ∧ SqL K H t xs ∧ Paired (TakAt K H) xs ts ∧ (∀ tb ∈ ts, (tb.map (·.1)).Nodup) ∧ ts.length ≤ 30 ∧ left ≤ 6 ∧
  ∀ v H', Same H H' → bestV K H' (needOf W p ts left) v → Q v H'
theorem c_own_need (T : Txt K mg) : Cal P w K mg base CX0 2 "own_need" ["place", "wants", "tables", "left"] (sp_own_need K) := by
  refine cal0 T.d_own_need sc_own_need (fun _ _ _ _ _ _ us hl => match us, hl with | [_, _, _, _], _ => rfl) (fun vs H Q E h => ?_) (fun f cdv A outer s H vs Q E hr h => ?_)
  · obtain ⟨t, xs, ts, left, d, W, p, rfl, _⟩ := h
    rfl
  · obtain ⟨t, xs, ts, left, d, W, p, rfl, hW, hp, hS, hT, nds, h30, h6, q⟩ := h
    refine ⟨_, (pss_cons (ps_set (i := 4) sc_own_need.nd rfl (Or.inl rfl) (pcall (c_best_parting T) (hr.mono (by omega)) (pa_cons (pv 2) (pa_cons (pv 3) pa_nil))))
      (pss_one (ps_ret (pe_ifExp (pt_cmpR op_isN (pv 4) pe_non (nomark _)) pe_non (pe_tup (pa_cons (pe_op op_add (pe_ix (ixT K) (pv 4) pe_int (fun _ _ => rfl)) (peOrT K (pe_ix (ixT K) (pv 1) (pv 0) (fun _ _ => rfl)) (pe_one pe_int))) (pa_cons (pe_ix (ixT K) (pv 4) pe_int (fun _ _ => rfl)) pa_nil))))))), ?_⟩
    refine ⟨_, rfl, _, rfl, t, xs, ts, left, rfl, hS, hT, nds, h30, h6, fun v H1 s1 hv => ?_⟩
    cases hb : best ts left with
    | none =>
      rw [hb] at hv
      have hv : v = .non := hv
      subst hv
      refine ⟨_, rfl, rfl, true, rfl, iteT (q _ _ s1 ?_)⟩
      unfold needOf
      rw [hb]
      rfl
    | some e =>
      rw [hb] at hv
      obtain ⟨a, b, rfl, h1, h2⟩ := hv
      refine ⟨_, rfl, rfl, false, rfl, iteF ?_⟩
      refine ⟨_, rfl, a, _, 0, _, rfl, rfl, h1, rfl, ?_⟩
      refine ⟨_, rfl, _, rfl, d, _, _, _, rfl, rfl, same_t s1 hW, atI_nat (wantsV_get hp), orz (fun Q' q' => q') ?_⟩
      refine ⟨_, _, rfl, rfl, _, rfl, a, _, 1, _, rfl, rfl, h1, rfl, (by show 2 ≤ sizeLine; decide), fun r nr => ?_⟩
      refine q _ _ (s1.trans (same_new nr)) ?_
      unfold needOf
      rw [hb]
      exact ⟨r, b, rfl, sqt upd_same, same_t (same_new nr) h2⟩
/-! ### is_called -/
def sp_is_called (K : PySem.W.Frag) : Sp := fun vs H Q _ => ∃ a L d W p, vs = [.ref a, .ref d, .int ((p : Nat) : Int)] ∧ SqT K H a (landV L) ∧ SqT K H d (wantsV W) ∧ WfL L ∧ L.length < 30 ∧ W.length = L.length + 1 ∧ p ≤ L.length ∧
  ∀ H', Same H H' → Q (.bl (wanted L W p)) H'
theorem c_is_called (T : Txt K mg) : Cal P w K mg base CX0 1 "is_called" ["land", "wants", "place"] (sp_is_called K) := by
  refine cal0 T.d_is_called sc_is_called (fun _ _ _ _ _ _ us hl => match us, hl with | [_, _, _], _ => rfl) (fun vs H Q E h => ?_) (fun f cdv A outer s H vs Q E hr h => ?_)
  · obtain ⟨a, L, d, W, p, rfl, _⟩ := h
    rfl
  · obtain ⟨a, L, d, W, p, rfl, hS, hW, wf, h30, hl, hp, q⟩ := h
    refine ⟨_, (pss_cons (ps_setLc (i := 3) (own := [("one", 5)]) (g := gName 5) rfl sc_is_called.nd rfl rfl (sw_true rfl rfl rfl (by decide +kernel)) (piT K (pv 1)) (blkOk_by (own := [("one", 5)]) (N := ["land", "wants", "place", "called", "k", "one"]) (sc := (defScope s_is_called)) (by decide +kernel)) (fun _ _ _ _ _ => pg_name (i := 5) sc_is_called.nd rfl (Or.inl rfl)) (fun _ _ _ _ _ => pts_nil) (fun _ _ _ _ _ => (pe_cmpR op_notN (pv 5) pe_non (nomark _))))
      (pss_cons (ps_for PassesOwn.never rfl (pi_range3 rfl T.b_range (pa_cons (pe_op op_sub (pe_callB (lenS K) rfl T.b_len PySem.boot_len (pa_cons (pv 0) pa_nil)) pe_int) (pa_cons pe_int (pa_cons (pe_un un_neg pe_int) pa_nil)))) (pg_name (i := 4) sc_is_called.nd rfl (Or.inl rfl)) (pss_one (ps_if (pt_val (pe_ix (ixL K) (pv 3) (pv 4) (fun _ _ => rfl))) (pss_one (ps_asg pe_bl (pg_sub (pv 3) (pe_ix (ixT K) (pv 0) (pv 4) (fun _ _ => rfl)) set_list))) pss_nil)))
      (pss_one (ps_ret (pe_ix (ixL K) (pv 3) (pv 2) (fun _ _ => rfl)))))), ?_⟩
    have ew : (wantsV W).length = W.length := wantsV_len W
    have el : (landV L).length = L.length + 1 := landV_len L
    refine ⟨_, rfl, d, rfl, ⟨_, hW⟩, fun D hD => ?_⟩
    refine lc_rel (walk_tup (xs := wantsV W)) hD (by omega) (fun H' s => same_t s hW) (fun i => true) (fun i v _ => v = .bl (W.getD i none).isSome) (fun _ _ _ _ _ _ _ h => h) (fun i x H2 H3 l hi s1 hy y => ?_) (fun ys H2 s1 hy hp' => ?_)
    · obtain ⟨rfl, hx⟩ := y
      obtain ⟨o, ho, rfl⟩ := wantsV_at hx
      refine ⟨Same.refl _, rfl, fun Q' q' => q' H3 (Same.refl _), fun _ H4 s4 Q' q' => ⟨_, rfl, rfl, q' _ H4 (Same.refl _) ?_⟩⟩
      rw [List.getD_eq_getElem?_getD, ho]
      cases o <;> rfl
    · have e4 := paired_vals (g := fun i => V.bl (W.getD i none).isSome) (fun _ _ h => h) hp'
      rw [show (List.range (wantsV W).length).filter (fun _ => true) = List.range (wantsV W).length by simp, ew] at e4
      -- for k in range(len(land) - 1, 0, -1)
      refine ⟨_, rfl, a, _, rfl, .inr (same_t s1 hS), _, _, rfl, rfl, _, rfl, _, _, _, _, rfl, RgC.neg (by omega) (by omega) (by decide) (by decide), ?_⟩
      have en : (((landV L).length : Int) - 1 - 0).toNat = L.length := by omega
      rw [en]
      refine for_it walk_rangeC (fun i σ H4 => ∃ y4 y5, σ = [some (.ref a), some (.ref d), some (.int ((p : Nat) : Int)), some (.ref D), y4, y5] ∧ Same H H4 ∧ H4 D = some (.lst ((List.range (L.length + 1)).map fun q => V.bl (callAt L W (L.length + 1 - i) q))))
        ⟨none, none, rfl, s1, ?_⟩ (fun _ _ _ _ _ => trivial) (fun i x σ H4 H5 hi p y => ?_) (fun σ H4 p => ?_)
      · rw [hy, e4, hl]
        congr 2
        refine List.map_congr_left fun q _ => ?_
        rw [Nat.sub_zero, callAt_top wf]
      · obtain ⟨y4, y5, rfl, s4, h4⟩ := p
        obtain ⟨rfl, rfl⟩ := y
        have ek : (((landV L).length : Int) - 1) + ((i : Nat) : Int) * (-1) = ((L.length - i : Nat) : Int) := by omega
        dsimp only
        rw [ek]
        have hk : L.length - i < L.length + 1 := by omega
        have gk : ((List.range (L.length + 1)).map fun q => V.bl (callAt L W (L.length + 1 - i) q))[L.length - i]? = some (.bl (wanted L W (L.length - i))) := by
          rw [List.getElem?_map, List.getElem?_range hk]
          show some (V.bl (callAt L W (L.length + 1 - i) (L.length - i))) = _
          rw [show L.length + 1 - i = L.length - i + 1 by omega, callAt_own wf (by omega)]
        have hi2 : L.length - i - 1 < L.length := by omega
        have gl : (landV L)[L.length - i]? = some (.int ((L.getD (L.length - i - 1) 0 : Nat) : Int)) := by
          have := landV_at hi2
          rw [show L.length - i - 1 + 1 = L.length - i by omega] at this
          exact this
        have turn : ∀ q, callAt L W (L.length + 1 - (i + 1)) q = (callAt L W (L.length + 1 - i) q || (decide (L.getD (L.length - i - 1) 0 = q) && wanted L W (L.length - i))) := by
          intro q
          have := callAt_turn (W := W) hi2 q
          rw [show L.length - i - 1 + 1 = L.length - i by omega, show L.length - i - 1 + 2 = L.length + 1 - i by omega] at this
          rw [show L.length + 1 - (i + 1) = L.length - i by omega]
          exact this
        refine ⟨_, rfl, _, rfl, D, _, _, _, rfl, rfl, sql h4, atI_nat gk, _, rfl, ite2 (fun c => ?_) (fun c => ?_)⟩
        · have hpar := wf _ hi2
          refine ⟨_, rfl, _, rfl, _, rfl, a, _, _, _, rfl, rfl, same_t s4 hS, atI_nat gl, D, _, _, L.getD (L.length - i - 1) 0, rfl, rfl, h4, ?_, ?_⟩
          · unfold ixN
            rw [List.length_map, List.length_range, if_pos (by omega), if_pos (by omega)]
            simp
          · refine ⟨_, _, rfl, same_mut s4 hD, ?_⟩
            rw [upd_same]
            congr 2
            apply List.ext_getElem?
            intro q
            rw [List.getElem?_set, List.getElem?_map, List.getElem?_map]
            by_cases hq : q < L.length + 1
            · rw [List.getElem?_range hq]
              simp only [Option.map_some, turn, c, Bool.and_true]
              by_cases e : L.getD (L.length - i - 1) 0 = q
              · rw [if_pos e, e]
                simp [hq]
              · rw [if_neg e, decide_eq_false e, Bool.or_false]
            · rw [List.getElem?_eq_none (by simpa using hq)]
              rw [if_neg (by omega)]
              rfl
        · have c' : wanted L W (L.length - i) = false := Bool.eq_false_iff.mpr c
          refine ⟨_, _, rfl, s4, ?_⟩
          rw [h4]
          congr 2
          refine List.map_congr_left fun q _ => ?_
          rw [turn, c']
          simp
      · obtain ⟨y4, y5, rfl, s4, h4⟩ := p
        refine ⟨_, rfl, _, rfl, D, _, _, _, rfl, rfl, sql h4, atI_nat (v := .bl (wanted L W p)) ?_, ?_⟩
        · rw [List.getElem?_map, List.getElem?_range (by omega)]
          show some (V.bl (callAt L W (L.length + 1 - L.length) _)) = _
          rw [show L.length + 1 - L.length = 1 by omega, callAt_low wf hp]
        · exact q H4 s4
end
end Oa
namespace Oat
def rowsUp (c : Case) (p : Nat) (ts : List (List (Nat × Int))) (j : Nat) : Tab := (List.range j).filterMap fun e => (rowOf c p ts e).map fun r => (e, r)
theorem rowsUp_succ (c : Case) (p : Nat) (ts : List (List (Nat × Int))) (j : Nat) : rowsUp c p ts (j + 1) = rowsUp c p ts j ++ (match rowOf c p ts j with | none => [] | some r => [(j, r)]) := by
  unfold rowsUp
  rw [List.range_succ, List.filterMap_append]
  congr 1
  cases h : rowOf c p ts j <;> simp [h]
theorem rowsUp_mem {c : Case} {p : Nat} {ts : List (List (Nat × Int))} {j : Nat} {x : Nat × TRow} (h : x ∈ rowsUp c p ts j) : x.1 < j ∧ rowOf c p ts x.1 = some x.2 := by
  unfold rowsUp at h
  obtain ⟨e, he, h⟩ := List.mem_filterMap.mp h
  cases hr : rowOf c p ts e with
  | none => rw [hr] at h; cases h
  | some r =>
    rw [hr] at h
    have := Option.some.inj h
    subst this
    exact ⟨List.mem_range.mp he, hr⟩
theorem dget_none {α : Type} {F : List (Nat × α)} {k : Nat} (h : ∀ x ∈ F, x.1 ≠ k) : dget F k = none := by
  induction F with
  | nil => rfl
  | cons x F ih =>
    obtain ⟨i, a⟩ := x
    have := h (i, a) List.mem_cons_self
    simp only [dget]
    rw [if_neg this]
    exact ih fun y hy => h y (List.mem_cons_of_mem _ hy)
theorem rowsUp_nd (c : Case) (p : Nat) (ts : List (List (Nat × Int))) : ∀ j, ((rowsUp c p ts j).map (·.1)).Nodup
  | 0 => List.nodup_nil
  | j + 1 => by
    rw [rowsUp_succ]
    cases h : rowOf c p ts j with
    | none => rw [List.append_nil]; exact rowsUp_nd c p ts j
    | some r =>
      rw [List.map_append]
      refine L2.nd_snoc (rowsUp_nd c p ts j) fun m => ?_
      obtain ⟨x, hx, e⟩ := List.mem_map.mp m
      have h1 := (rowsUp_mem hx).1
      have h2 : x.1 = j := e
      omega
theorem rowsUp_len (c : Case) (p : Nat) (ts : List (List (Nat × Int))) (j : Nat) : (rowsUp c p ts j).length ≤ j := by
  unfold rowsUp
  have := List.length_filterMap_le (fun e => (rowOf c p ts e).map fun r => (e, r)) (List.range j)
  simpa using this
theorem rowsUp_put {c : Case} {p : Nat} {ts : List (List (Nat × Int))} {j : Nat} {r : TRow} (h : rowOf c p ts j = some r) : dput (rowsUp c p ts j) j r = rowsUp c p ts (j + 1) := by
  rw [Oa.dput_out (dget_none fun x hx => by have := (rowsUp_mem hx).1; omega), rowsUp_succ, h]
theorem tabOf_up (c : Case) (p : Nat) (ts : List (List (Nat × Int))) : tabOf c p ts = rowsUp c p ts (c.left + 1) := rfl
theorem tab_nd {c : Case} (wf : WfL c.L) {p : Nat} (hp : p ≤ c.L.length) : ((tab c p).map (·.1)).Nodup := by
  rw [tab_eq wf hp, tabOf_up]
  exact rowsUp_nd _ _ _ _
theorem takes_nd {t : Tab} (h : (t.map (·.1)).Nodup) : ((takes t).map (·.1)).Nodup := by
  unfold takes
  rw [List.map_map]
  exact h
theorem kids_len (L : List Nat) (p : Nat) : (kids L p).length ≤ L.length := by
  unfold kids
  rw [List.length_map]
  have := List.length_filter_le (fun i => L.getD i 0 == p) (List.range L.length)
  simpa using this
end Oat
namespace Oa
open PySem PySem.Spec PyProof.Rows L2 Oat
section
variable {P : Program} {w : World} {K : PySem.W.Frag} {mg : Str → Option Value} {base : Heap}
/-- a row of the program's tables -/
def PRowAt (K : PySem.W.Frag) (H : Hp) (v : V) (r : TRow) : Prop := ∃ p q, v = .ref p ∧ SqT K H p [.int r.tk, .int r.out, .int r.back, .ref q] ∧ SqT K H q (r.part.map fun (n : Nat) => V.int (n : Int))
theorem PRowAt.tx {H H' : Hp} {v : V} {r : TRow} (h : PRowAt K H v r) (x : TExt H H') : PRowAt K H' v r := by
  obtain ⟨p, q, e, h1, h2⟩ := h
  exact ⟨p, q, e, x.t h1, x.t h2⟩
theorem PRowAt.head {H : Hp} {v : V} {r : TRow} (h : PRowAt K H v r) : HeadAt K H v r.tk := by
  obtain ⟨p, q, e, h1, _⟩ := h
  exact ⟨p, _, e, h1⟩
def optRow (K : PySem.W.Frag) (H : Hp) (o : Option TRow) (v : V) : Prop := match o with
  | none => v = .non
  | some r => PRowAt K H v r
/-! ### taken_for -/
def sp_taken_for (K : PySem.W.Frag) : Sp := fun vs H Q _ => ∃ a b d c carts p v n e, vs = [.ref a, .ref b, .ref d, .int ((p : Nat) : Int), v, .int ((e : Nat) : Int)] ∧ CaseAt K H a b d c carts ∧ p ≤ c.L.length ∧ e ≤ 6 ∧ RowAt K H v n ∧
  ∀ v H', Same H H' → optRow K H' (takenOf c p n e) v → Q v H'
theorem c_taken_for (T : Txt K mg) : Cal P w K mg base CX0 2 "taken_for" ["land", "works", "wants", "place", "need", "left"] (sp_taken_for K) := by
  refine cal0 T.d_taken_for sc_taken_for (fun _ _ _ _ _ _ us hl => match us, hl with | [_, _, _, _, _, _], _ => rfl) (fun vs H Q E h => ?_) (fun f cdv A outer s H vs Q E hr h => ?_)
  · obtain ⟨a, b, d, c, carts, p, v, n, e, rfl, _⟩ := h
    rfl
  · obtain ⟨a, b, d, c, carts, p, v, n, e, rfl, hC, hp, h6, ⟨x, y, rfl, h1, h2⟩, q⟩ := h
    refine ⟨_, (pss_cons (ps_if (pt_cmpR op_eq (pv 3) pe_int (nomark _)) (pss_one (ps_ret (pe_tup (pa_cons (pe_ix (ixT K) (pv 4) pe_int (fun _ _ => rfl)) (pa_cons pe_int (pa_cons pe_int (pa_cons (pe_ix (ixT K) (pv 4) pe_int (fun _ _ => rfl)) pa_nil))))))) pss_nil)
      (pss_cons (ps_if (PW.pt (pw_and (pt_cmpR op_eq (pv 5) pe_int (nomark _)) (pw_and1 (pt_not (pt_val (pcall (c_is_called T) (hr.mono (by omega)) (pa_cons (pv 0) (pa_cons (pv 2) (pa_cons (pv 3) pa_nil))))))))) (pss_one (ps_ret (pe_tup (pa_cons pe_int (pa_cons pe_int (pa_cons pe_int (pa_cons (pe_ix (ixT K) (pv 4) pe_int (fun _ _ => rfl)) pa_nil))))))) pss_nil)
      (pss_cons (ps_set (i := 6) sc_taken_for.nd rfl (Or.inl rfl) (pcall (c_going_out T) (hr.mono (by omega)) (pa_cons (pe_ix (ixT K) (pv 1) pe_int (fun _ _ => rfl)) (pa_cons (pe_ix (ixT K) (pv 4) pe_int (fun _ _ => rfl)) (pa_cons (pv 5) pa_nil)))))
      (pss_cons (ps_if (pt_cmpR op_isN (pv 6) pe_non (nomark _)) (pss_one (ps_ret pe_non)) pss_nil)
      (pss_cons (ps_set (i := 6) sc_taken_for.nd rfl (Or.inl rfl) (pe_callB (call_max2 rfl) rfl T.b_max (by decide +kernel) (pa_cons (pv 6) (pa_cons pe_int pa_nil))))
      (pss_one (ps_ret (pe_tup (pa_cons (pe_op op_sub (pe_op op_add (pe_ix (ixT K) (pv 4) pe_int (fun _ _ => rfl)) (pe_op op_mul pe_int (pv 6))) (pv 5)) (pa_cons (pv 6) (pa_cons (pe_op op_sub (pv 6) (pv 5)) (pa_cons (pe_ix (ixT K) (pv 4) pe_int (fun _ _ => rfl)) pa_nil)))))))))))), ?_⟩
    refine if0s (b := decide (p = 0)) (fun Q' q' => ⟨_, rfl, rfl, _, rfl, ?_⟩) (fun hb => ?_) (fun hb => ?_)
    · rw [show decide (V.int ((p : Nat) : Int) = V.int 0) = decide (p = 0) from decide_eq_decide.mpr ⟨fun h => by injection h with h; omega, fun h => by rw [h]; rfl⟩]
      exact q'
    · have hp0 := of_decide_eq_true hb
      subst hp0
      refine ⟨_, rfl, x, _, 0, _, rfl, rfl, h1, rfl, _, rfl, x, _, 1, _, rfl, rfl, h1, rfl, (by show 4 ≤ sizeLine; decide), fun r nr => q _ _ (same_new nr) ?_⟩
      exact ⟨r, y, rfl, sqt upd_same, same_t (same_new nr) h2⟩
    · have hp0 := of_decide_eq_false hb
      have e1 : decide (V.int ((e : Nat) : Int) = V.int 0) = decide (e = 0) := decide_eq_decide.mpr ⟨fun h => by injection h with h; omega, fun h => by rw [h]; rfl⟩
      -- the rest, behind the second test
      have rest : ∀ (D : Ends) (H1 : Hp), Same H H1 → D.rt = Q → ¬ (e = 0 ∧ wanted c.L c.W p = false) →
          (tSeq (tAsg (tCall sp_going_out [] E0 (tCons (tOp (rIxT K) (tVar 1) (tC (.int 1))) (tCons (tOp (rIxT K) (tVar 4) (tC (.int 0))) (tCons (tVar 5) tNil)))) (gName 6))
            (tSeq (tIfS (tTest (tOp (fun x y H Q => y = .non ∧ Q (.bl (decide (x = .non))) H) (tVar 6) (tC .non))) (tRet (tC .non)) tNext)
            (tSeq (tAsg (tCB (fun xs H Q => ∃ i j, xs = [V.int i, V.int j] ∧ Q (V.int (if j > i then j else i)) H) (tCons (tVar 6) (tCons (tC (.int 1)) tNil))) (gName 6))
            (tRet (tTup (tCons (tOp (rI0 fun i j => .int (i - j)) (tOp (rI0 fun i j => .int (i + j)) (tOp (rIxT K) (tVar 4) (tC (.int 0))) (tOp (rI CMul fun i j => .int (i * j)) (tC (.int 2)) (tVar 6))) (tVar 5))
              (tCons (tVar 6) (tCons (tOp (rI0 fun i j => .int (i - j)) (tVar 6) (tVar 5)) (tCons (tOp (rIxT K) (tVar 4) (tC (.int 1))) tNil)))))))))
          D [some (.ref a), some (.ref b), some (.ref d), some (.int ((p : Nat) : Int)), some (.ref x), some (.int ((e : Nat) : Int)), none] H1 := by
        intro D H1 s1 hD nz
        have et : takenOf c p n e = (outF c.room n.1 e).map fun o => ⟨n.1 + 2 * o - e, o, o - e, n.2⟩ := by
          unfold takenOf
          rw [if_neg hp0, if_neg nz]
        have hg := goes_out (room := c.room) (e := e) (need := n.1) hC.r2
        refine ⟨_, rfl, b, _, 1, _, rfl, rfl, same_t s1 hC.k, rfl, _, rfl, x, _, 0, _, rfl, rfl, same_t s1 h1, rfl, _, rfl, c.room, e, n.1, rfl, hC.r2, hC.r20, h6, ?_⟩
        cases hgo : goes c.room n.1 e with
        | none =>
          rw [hgo] at hg
          have hg : none = outF c.room n.1 e := hg
          rw [← hg] at et
          refine ⟨_, rfl, rfl, true, rfl, iteT ?_⟩
          show D.rt .non H1
          rw [hD]
          refine q _ _ s1 ?_
          rw [et]
          rfl
        | some o =>
          rw [hgo] at hg
          have hg : some (max o 1) = outF c.room n.1 e := hg
          rw [← hg] at et
          refine ⟨_, rfl, rfl, false, rfl, iteF ?_⟩
          have em : (if (1 : Int) > o then (1 : Int) else o) = max o 1 := by split <;> omega
          refine ⟨_, rfl, _, _, rfl, ?_⟩
          dsimp only [gName]
          rw [em]
          refine ⟨_, rfl, x, _, 0, _, rfl, rfl, same_t s1 h1, rfl, _, rfl, _, _, rfl, rfl, .inl ⟨by decide, by decide⟩, _, _, rfl, rfl, _, rfl, _, _, rfl, rfl, ?_⟩
          refine ⟨_, rfl, _, rfl, _, rfl, _, _, rfl, rfl, _, rfl, x, _, 1, _, rfl, rfl, same_t s1 h1, rfl, (by show 4 ≤ sizeLine; decide), fun r nr => ?_⟩
          show D.rt (.ref r) _
          rw [hD]
          refine q _ _ (s1.trans (same_new nr)) ?_
          rw [et]
          exact ⟨r, y, rfl, sqt upd_same, same_t (s1.trans (same_new nr)) h2⟩
      refine ⟨_, rfl, rfl, _, rfl, ?_⟩
      rw [e1]
      refine ite2 (fun he => ?_) (fun he => ?_)
      · have he0 := of_decide_eq_true he
        subst he0
        refine ⟨_, rfl, _, rfl, _, rfl, a, c.L, d, c.W, p, rfl, hC.l, hC.w, hC.wf, hC.n, hC.wl, hp, fun H1 s1 => ⟨_, rfl, ?_⟩⟩
        cases hw : wanted c.L c.W p with
        | true =>
          refine iteF ?_
          exact rest _ H1 s1 rfl fun z => by rw [hw] at z; cases z.2
        | false =>
          refine iteT ?_
          refine ⟨_, rfl, x, _, 1, _, rfl, rfl, same_t s1 h1, rfl, (by show 4 ≤ sizeLine; decide), fun r nr => q _ _ (s1.trans (same_new nr)) ?_⟩
          have et : takenOf c p n 0 = some ⟨0, 0, 0, n.2⟩ := by
            unfold takenOf
            rw [if_neg hp0, if_pos ⟨rfl, hw⟩]
          rw [et]
          exact ⟨r, y, rfl, sqt upd_same, same_t (s1.trans (same_new nr)) h2⟩
      · have he0 := of_decide_eq_false (Bool.eq_false_iff.mpr he)
        refine iteF ?_
        exact rest _ H (Same.refl _) rfl fun z => he0 z.1
end
end Oa
namespace Oa
open PySem PySem.Spec PyProof.Rows L2 Oat
section
variable {P : Program} {w : World} {K : PySem.W.Frag} {mg : Str → Option Value} {base : Heap}
/-- the tables of all places: a list of dicts -/
structure TabsAt (K : PySem.W.Frag) (H : Hp) (D : Addr) (ds : List Addr) (F : Nat → Tab) : Prop where
  l : H D = some (.lst (ds.map V.ref))
  nd : ds.Nodup
  at_ : ∀ (k : Nat) (d : Addr), ds[k]? = some d → ∃ kvs, H d = some (.dK kvs) ∧ PairD (PRowAt K H) kvs (F k)
theorem TabsAt.same {H H' : Hp} {D : Addr} {ds : List Addr} {F : Nat → Tab} (h : TabsAt K H D ds F) (s : Same H H') : TabsAt K H' D ds F :=
  ⟨s _ _ h.l, h.nd, fun k d e => by
    obtain ⟨kvs, h1, h2⟩ := h.at_ k d e
    exact ⟨kvs, s _ _ h1, pd_imp h2 fun _ _ q => q.tx (same_tx s)⟩⟩
theorem nd_ne {ds : List Addr} (nd : ds.Nodup) {i j : Nat} {a b : Addr} (ha : ds[i]? = some a) (hb : ds[j]? = some b) (h : i ≠ j) : a ≠ b := by
  rintro rfl
  exact h (nd_ix nd ha hb)
theorem TabsAt.put {H : Hp} {D : Addr} {ds : List Addr} {F G : Nat → Tab} {p : Nat} {d : Addr} {kvs : List (Key × V)} (h : TabsAt K H D ds F) (hd : ds[p]? = some d) (hp : PairD (PRowAt K H) kvs (G p)) (hG : ∀ k, k ≠ p → G k = F k) : TabsAt K (upd H d (.dK kvs)) D ds G := by
  obtain ⟨k0, e0, _⟩ := h.at_ p d hd
  have x : TExt H (upd H d (.dK kvs)) := tx_upd (by rw [e0]; trivial)
  refine ⟨?_, h.nd, fun k d' e => ?_⟩
  · rw [upd_ne (ne_of h.l e0 (fun z => nomatch z))]
    exact h.l
  · by_cases hk : k = p
    · subst hk
      have : d' = d := Option.some.inj (e.symm.trans hd)
      subst this
      exact ⟨kvs, upd_same, pd_imp hp fun _ _ q => q.tx x⟩
    · obtain ⟨k1, e1, p1⟩ := h.at_ k d' e
      refine ⟨k1, ?_, ?_⟩
      · rw [upd_ne (nd_ne h.nd e hd hk)]
        exact e1
      · rw [hG k hk]
        exact pd_imp p1 fun _ _ q => q.tx x
theorem pd_heads {H : Hp} : ∀ {kvs : List (Key × V)} {t : Tab}, PairD (PRowAt K H) kvs t → PairD (HeadAt K H) kvs (takes t)
  | _, _, .nil => .nil
  | _, _, .cons a b => .cons ⟨a.1, a.2.head⟩ (pd_heads b)
def sp_tables_of (K : PySem.W.Frag) : Sp := fun vs H Q _ => ∃ a b d c carts, vs = [.ref a, .ref b, .ref d, .int ((c.left : Nat) : Int)] ∧ CaseAt K H a b d c carts ∧
  ∀ D ds H', H D = none → Same H H' → ds.length = c.L.length + 1 → (∀ x ∈ ds, H x = none) → TabsAt K H' D ds (tab c) → Q (.ref D) H'
theorem c_tables_of (T : Txt K mg) : Cal P w K mg base CX0 3 "tables_of" ["land", "works", "wants", "left"] (sp_tables_of K) := by
  refine cal0 T.d_tables_of sc_tables_of (fun _ _ _ _ _ _ us hl => match us, hl with | [_, _, _, _], _ => rfl) (fun vs H Q E h => ?_) (fun f cdv A outer s H vs Q E hr h => ?_)
  · obtain ⟨a, b, d, c, carts, rfl, _⟩ := h
    rfl
  · obtain ⟨a, b, d, c, carts, rfl, hC, q⟩ := h
    refine ⟨_, (pss_cons (ps_set (i := 5) sc_tables_of.nd rfl (Or.inr rfl) (pe_lc (own := [("place", 4)]) (g := gName 4) rfl sc_tables_of.nd (piT K (pv 0)) (blkOk_by (own := [("place", 4)]) (N := ["land", "works", "wants", "left", "place", "found", "tables", "some", "need", "row", "k"]) (sc := (defScope s_tables_of)) (by decide +kernel)) (fun _ _ _ _ _ => pg_name (i := 4) sc_tables_of.nd rfl (Or.inl rfl)) (fun _ _ _ _ _ => pts_nil) (fun _ _ _ _ _ => pe_dnewK)))
      (pss_cons (ps_for PassesOwn.never rfl (pi_range3 rfl T.b_range (pa_cons (pe_op op_sub (pe_callB (lenS K) rfl T.b_len PySem.boot_len (pa_cons (pv 0) pa_nil)) pe_int) (pa_cons (pe_un un_neg pe_int) (pa_cons (pe_un un_neg pe_int) pa_nil)))) (pg_name (i := 4) sc_tables_of.nd rfl (Or.inl rfl)) (pss_cons (ps_setLc (i := 6) (own := [("k", 10)]) (g := gName 10) rfl sc_tables_of.nd rfl rfl (sw_true rfl rfl rfl (by decide +kernel)) (piL K (pcall (c_beyond T) (hr.mono (by omega)) (pa_cons (pv 0) (pa_cons (pv 4) pa_nil)))) (blkOk_by (own := [("k", 10)]) (N := ["land", "works", "wants", "left", "place", "found", "tables", "some", "need", "row", "k"]) (sc := (defScope s_tables_of)) (by decide +kernel)) (fun _ _ _ _ _ => pg_name (i := 10) sc_tables_of.nd rfl (Or.inl rfl)) (fun _ _ _ _ _ => pts_nil) (fun _ _ _ _ _ => (pe_ix (ixL K) (pv 5) (pv 10) (fun _ _ => rfl))))
      (pss_one (ps_for PassesOwn.never rfl (pi_range1 rfl T.b_range (pa_cons (pe_op op_add (pv 3) pe_int) pa_nil)) (pg_name (i := 7) sc_tables_of.nd rfl (Or.inl rfl)) (pss_cons (ps_set (i := 8) sc_tables_of.nd rfl (Or.inl rfl) (pcall (c_own_need T) (hr.mono (by omega)) (pa_cons (pv 4) (pa_cons (pv 2) (pa_cons (pv 6) (pa_cons (pv 7) pa_nil))))))
      (pss_one (ps_if (pt_cmpR op_notN (pv 8) pe_non (nomark _)) (pss_cons (ps_set (i := 9) sc_tables_of.nd rfl (Or.inl rfl) (pcall (c_taken_for T) (hr.mono (by omega)) (pa_cons (pv 0) (pa_cons (pv 1) (pa_cons (pv 2) (pa_cons (pv 4) (pa_cons (pv 8) (pa_cons (pv 7) pa_nil))))))))
      (pss_one (ps_if (pt_cmpR op_notN (pv 9) pe_non (nomark _)) (pss_one (ps_dput (hu_of hr) (pe_ix (ixL K) (pv 5) (pv 4) (fun _ _ => rfl)) (pv 7) (pv 9) rfl)) pss_nil))) pss_nil)))))))
      (pss_one (ps_ret (pv 5))))), ?_⟩
    have el : (landV c.L).length = c.L.length + 1 := landV_len c.L
    have hn := hC.n
    have h6 : c.left ≤ 6 := Nat.le_trans hC.lf hC.c6
    -- found = [{} for place in land]
    refine ⟨_, rfl, a, rfl, ⟨_, hC.l⟩, fun D hD => ?_⟩
    refine lc_it (walk_tup (xs := landV c.L)) (g := gName 4) (fun i H1 => Same H H1 ∧ ∃ ds, ds.length = i ∧ (∀ x ∈ ds, H x = none) ∧ TabsAt K H1 D ds (fun _ => [])) ⟨same_new hD, [], rfl, (fun _ h => absurd h List.not_mem_nil), ⟨upd_same, List.nodup_nil, fun k d e => by simp at e⟩⟩
      (fun i H1 _ p => same_t p.1 hC.l) (fun i x H1 H2 hi p y => ?_) (fun H1 p => ?_)
    · obtain ⟨rfl, hx⟩ := y
      obtain ⟨s1, ds, hl, hf, tb⟩ := p
      refine ⟨rfl, fun e ne => ⟨ds.map V.ref, ?_, ?_, ?_⟩⟩
      · rw [upd_ne (ne_of_none tb.l ne)]
        exact tb.l
      · rw [List.length_map, hl]
        exact Nat.lt_of_le_of_lt (show i ≤ 1000 by omega) (small1000 (Nat.le_refl _))
      · have neD : e ≠ D := (ne_of_none tb.l ne).symm
        have heH : H e = none := s1.free ne
        have tb1 := tb.same (same_new (o := .dK []) ne)
        refine ⟨same_mut (same_mut s1 heH) hD, ds ++ [e], by simp [hl], fun x hx => ?_, ⟨?_, ?_, fun k d' ed => ?_⟩⟩
        · rcases List.mem_append.mp hx with h | h
          · exact hf x h
          · rw [List.mem_singleton.mp h]
            exact heH
        · rw [upd_same, List.map_append]
          rfl
        · refine nd_snoc tb.nd fun m => ?_
          obtain ⟨k, hk⟩ := List.getElem?_of_mem m
          obtain ⟨kv, z, _⟩ := tb.at_ k e hk
          rw [ne] at z
          cases z
        · have ed' : d' ≠ D := by
            rintro rfl
            rcases List.mem_append.mp (List.mem_of_getElem? ed) with h | h
            · obtain ⟨k, hk⟩ := List.getElem?_of_mem h
              obtain ⟨kv, z, _⟩ := tb.at_ k _ hk
              rw [tb.l] at z
              cases z
            · exact neD (List.mem_singleton.mp h).symm
          rw [upd_ne ed']
          by_cases hk : k < ds.length
          · rw [List.getElem?_append_left hk] at ed
            obtain ⟨kv, z, pz⟩ := tb1.at_ k d' ed
            refine ⟨kv, z, ?_⟩
            cases pz
            exact .nil
          · rw [List.getElem?_append_right (by omega)] at ed
            have : d' = e := by
              have := List.mem_of_getElem? ed
              exact List.mem_singleton.mp this
            subst this
            exact ⟨[], upd_same, .nil⟩
    · obtain ⟨s1, ds, hl, hf, tb⟩ := p
      rw [el] at hl
      -- for place in range(len(land) - 1, -1, -1)
      refine ⟨_, rfl, a, _, rfl, .inr (same_t s1 hC.l), _, _, rfl, rfl, _, rfl, _, rfl, _, _, _, _, rfl, RgC.neg (by omega) (by omega) (by decide) (by decide), ?_⟩
      have en : (((landV c.L).length : Int) - 1 - -1).toNat = c.L.length + 1 := by omega
      rw [en]
      refine for_it walk_rangeC (fun i σ H2 => ∃ y4 y6 y7 y8 y9 y10, σ = [some (.ref a), some (.ref b), some (.ref d), some (.int ((c.left : Nat) : Int)), y4, some (.ref D), y6, y7, y8, y9, y10] ∧ Same H H2 ∧ TabsAt K H2 D ds (fun k => if c.L.length + 1 ≤ k + i then tab c k else []))
        ⟨none, none, none, none, none, none, rfl, s1, ?_⟩ (fun _ _ _ _ _ => trivial) (fun i x σ H2 H3 hi p y => ?_) (fun σ H2 p => ?_)
      · refine ⟨tb.l, tb.nd, fun k d' e => ?_⟩
        have hk : k < ds.length := (List.getElem?_eq_some_iff.mp e).1
        obtain ⟨kv, z, pz⟩ := tb.at_ k d' e
        refine ⟨kv, z, ?_⟩
        rw [if_neg (by omega)]
        exact pz
      · obtain ⟨y4, y6, y7, y8, y9, y10, rfl, s2, t2⟩ := p
        obtain ⟨rfl, rfl⟩ := y
        have ek : (((landV c.L).length : Int) - 1) + ((i : Nat) : Int) * (-1) = ((c.L.length - i : Nat) : Int) := by omega
        dsimp only
        rw [ek]
        have hp : c.L.length - i ≤ c.L.length := Nat.sub_le _ _
        have hpi : c.L.length - i + i = c.L.length := by omega
        generalize hpe : c.L.length - i = p at hp hpi
        -- tables = [found[k] for k in beyond(land, place)]
        refine ⟨_, rfl, _, rfl, a, c.L, p, rfl, same_t s2 hC.l, hC.n, fun kl H4 nkl s4 hkl => ?_⟩
        refine ⟨kl, rfl, ⟨_, sql hkl⟩, fun tl htl => ?_⟩
        have t4 := t2.same s4
        refine lc_rel (walk_list (xs := (kids c.L p).map fun (k : Nat) => V.int (k : Int))) htl (by rw [List.length_map]; have := kids_len c.L p; omega) (fun H' s => sql (s _ _ hkl)) (fun _ => true)
          (fun m v _ => ∃ k dd, (kids c.L p)[m]? = some k ∧ ds[k]? = some dd ∧ v = .ref dd) (fun _ _ _ _ _ _ _ h => h) (fun m x H5 H6 l hm s5 hy y => ?_) (fun ys H5 s5 hy hp' => ?_)
        · obtain ⟨rfl, hx⟩ := y
          rw [List.getElem?_map] at hx
          obtain ⟨k, hk, rfl⟩ := Option.map_eq_some_iff.mp hx
          have hkk := kids_gt hC.wf (List.mem_of_getElem? hk)
          have hdk : k < ds.length := by omega
          refine ⟨Same.refl _, rfl, fun Q' q' => q' H6 (Same.refl _), fun _ H7 s7 Q' q' => ?_⟩
          refine ⟨_, rfl, _, rfl, D, _, _, _, rfl, rfl, sql ((s5.trans s7) _ _ t4.l), atI_nat (v := .ref ds[k]) ?_, q' _ H7 (Same.refl _) ⟨k, ds[k], hk, List.getElem?_eq_getElem hdk, rfl⟩⟩
          rw [List.getElem?_map, List.getElem?_eq_getElem hdk]
          rfl
        · have t5 := t4.same s5
          have hpair : ∀ (H6 : Hp), TabsAt K H6 D ds (fun k => if c.L.length + 1 ≤ k + (i + 1) then (if k = p then rowsUp c p ((kids c.L p).map fun k => takes (tab c k)) 0 else tab c k) else []) → True := fun _ _ => trivial
          have hys : Paired (fun v k => ∃ dd, ds[k]? = some dd ∧ v = .ref dd) ys (kids c.L p) := by
            rw [show (List.range ((kids c.L p).map fun (k : Nat) => V.int (k : Int)).length).filter (fun _ => true) = List.range (kids c.L p).length by simp] at hp'
            have : ∀ (F G : List Nat) (ys : List V), Paired (fun m v => ∃ k dd, (F ++ G)[m]? = some k ∧ ds[k]? = some dd ∧ v = .ref dd) (List.range' F.length G.length) ys → Paired (fun v k => ∃ dd, ds[k]? = some dd ∧ v = .ref dd) ys G := by
              intro F G
              induction G generalizing F with
              | nil => intro ys h; cases h; exact .nil
              | cons g G ih =>
                intro ys h
                rw [List.length_cons, List.range'_succ] at h
                cases h with
                | cons a b =>
                  obtain ⟨k, dd, he, hd, hv⟩ := a
                  have e1 : k = g := by
                    rw [List.getElem?_append_right (Nat.le_refl _), Nat.sub_self] at he
                    exact (Option.some.inj he).symm
                  subst e1
                  refine .cons ⟨dd, hd, hv⟩ (ih (F ++ [k]) _ ?_)
                  rw [List.append_assoc, List.length_append]
                  exact b
            exact this [] (kids c.L p) ys (by rw [List.nil_append, List.length_nil, ← List.range_eq_range']; exact hp')
          have hdp : p < ds.length := by omega
          have hdpe : ds[p]? = some ds[p] := List.getElem?_eq_getElem hdp
          have key : ∀ (H6 : Hp) (F : Nat → Tab), TabsAt K H6 D ds F → (∀ k, p < k → k ≤ c.L.length → F k = tab c k) → Paired (TakAt K H6) ys ((kids c.L p).map fun k => takes (tab c k)) := by
            intro H6 F t6 hF
            have : ∀ {ys : List V} {ks : List Nat}, (∀ k ∈ ks, p < k ∧ k ≤ c.L.length) → Paired (fun v k => ∃ dd, ds[k]? = some dd ∧ v = .ref dd) ys ks → Paired (TakAt K H6) ys (ks.map fun k => takes (tab c k)) := by
              intro ys ks hks h
              induction h with
              | nil => exact .nil
              | @cons v k vs ks a b ih =>
                obtain ⟨dd, hd, rfl⟩ := a
                have hk := hks k List.mem_cons_self
                obtain ⟨kv, z, pz⟩ := t6.at_ k dd hd
                rw [hF k hk.1 hk.2] at pz
                exact .cons ⟨dd, kv, rfl, z, pd_heads pz⟩ (ih fun k hk => hks k (List.mem_cons_of_mem _ hk))
            exact this (fun k hk => kids_gt hC.wf hk) hys
          -- for some in range(left + 1)
          refine ⟨_, rfl, _, _, rfl, rfl, _, rfl, by omega, by omega, ?_⟩
          have en2 : (((c.left : Nat) : Int) + 1).toNat = c.left + 1 := by omega
          rw [en2]
          refine for_it walk_range (fun j σ H6 => ∃ y7 y8 y9 y10, σ = [some (.ref a), some (.ref b), some (.ref d), some (.int ((c.left : Nat) : Int)), some (.int ((p : Nat) : Int)), some (.ref D), some (.ref tl), y7, y8, y9, y10] ∧ Same H H6 ∧ H6 tl = some (.lst ys) ∧
              TabsAt K H6 D ds (fun k => if k = p then rowsUp c p ((kids c.L p).map fun k => takes (tab c k)) j else if c.L.length + 1 ≤ k + i then tab c k else []))
            ⟨_, _, _, _, rfl, s2.trans (s4.trans s5), hy, ?_⟩ (fun _ _ _ _ _ => trivial) (fun j x σ H6 H7 hj p' y => ?_) (fun σ H6 p' => ?_)
          · refine ⟨t5.l, t5.nd, fun k d' e => ?_⟩
            obtain ⟨kv, z, pz⟩ := t5.at_ k d' e
            refine ⟨kv, z, ?_⟩
            by_cases hk : k = p
            · subst hk
              rw [if_pos rfl]
              rw [if_neg (by omega)] at pz
              exact pz
            · rw [if_neg hk]
              exact pz
          · obtain ⟨y7, y8, y9, y10, rfl, s6, h6l, t6⟩ := p'
            obtain ⟨rfl, rfl⟩ := y
            dsimp only
            rw [Int.zero_add]
            have hpr := key H7 _ t6 (fun k h1 h2 => by rw [if_neg (by omega), if_pos (by omega)])
            -- need = own_need(place, wants, tables, some)
            refine ⟨_, rfl, _, rfl, _, rfl, _, rfl, tl, ys, _, j, d, c.W, p, rfl, same_t s6 hC.w, by have := hC.wl; omega, sql h6l, hpr, fun tb' htb => ?_, by rw [List.length_map]; have := kids_len c.L p; omega, by omega, fun v H8 s8 hv => ?_⟩
            · obtain ⟨k, hk, rfl⟩ := List.mem_map.mp htb
              exact takes_nd (tab_nd hC.wf (kids_gt hC.wf hk).2)
            · have t8 := t6.same s8
              have s68 := s6.trans s8
              cases hno : needOf c.W p ((kids c.L p).map fun k => takes (tab c k)) j with
              | none =>
                rw [hno] at hv
                have hv : v = .non := hv
                subst hv
                refine ⟨_, rfl, rfl, false, rfl, iteF ?_⟩
                have hro : Oat.rowOf c p ((kids c.L p).map fun k => takes (tab c k)) j = none := by
                  unfold Oat.rowOf
                  rw [hno]
                  rfl
                refine ⟨_, _, _, _, rfl, s68, s8 _ _ h6l, ?_⟩
                refine ⟨t8.l, t8.nd, fun k d' e => ?_⟩
                obtain ⟨kv, z, pz⟩ := t8.at_ k d' e
                refine ⟨kv, z, ?_⟩
                rw [rowsUp_succ, hro, List.append_nil]
                exact pz
              | some n =>
                rw [hno] at hv
                obtain ⟨na, nb, rfl, hn1, hn2⟩ := hv
                refine ⟨_, rfl, rfl, true, rfl, iteT ?_⟩
                refine ⟨_, rfl, _, rfl, _, rfl, _, rfl, _, rfl, _, rfl, a, b, d, c, carts, p, .ref na, n, j, rfl, hC.same s68, hp, by omega, ⟨na, nb, rfl, hn1, hn2⟩, fun v H9 s9 hv => ?_⟩
                have t9 := t8.same s9
                have s69 := s68.trans s9
                have hl9 := s9 _ _ (s8 _ _ h6l)
                have hro : Oat.rowOf c p ((kids c.L p).map fun k => takes (tab c k)) j = takenOf c p n j := by
                  unfold Oat.rowOf
                  rw [hno]
                  rfl
                cases hta : takenOf c p n j with
                | none =>
                  rw [hta] at hv hro
                  have hv : v = .non := hv
                  subst hv
                  refine ⟨_, rfl, rfl, false, rfl, iteF ?_⟩
                  refine ⟨_, _, _, _, rfl, s69, hl9, ?_⟩
                  refine ⟨t9.l, t9.nd, fun k d' e => ?_⟩
                  obtain ⟨kv, z, pz⟩ := t9.at_ k d' e
                  refine ⟨kv, z, ?_⟩
                  rw [rowsUp_succ, hro, List.append_nil]
                  exact pz
                | some r =>
                  rw [hta] at hv hro
                  obtain ⟨ra, rb, rfl, hr1, hr2⟩ := hv
                  refine ⟨_, rfl, rfl, true, rfl, iteT ?_⟩
                  obtain ⟨kv, z, pz⟩ := t9.at_ p ds[p] hdpe
                  rw [if_pos rfl] at pz
                  have hkv : kv.length ≤ 1000 := by
                    rw [pd_len pz]
                    have := rowsUp_len c p ((kids c.L p).map fun k => takes (tab c k)) j
                    omega
                  refine ⟨_, rfl, _, rfl, _, rfl, D, _, _, _, rfl, rfl, sql t9.l, atI_nat (v := .ref ds[p]) ?_, _, rfl, ds[p], _, rfl, DPut.k (k := Sum.inl ((j : Nat) : Int)) z (Nat.lt_of_le_of_lt hkv (small1000 (Nat.le_refl _))), ?_⟩
                  · rw [List.getElem?_map, hdpe]
                    rfl
                  · have ntl : tl ≠ ds[p] := ne_of hl9 z (fun q => nomatch q)
                    have nH : H ds[p] = none := hf _ (List.getElem_mem hdp)
                    refine ⟨_, _, _, _, rfl, same_mut s69 nH, by rw [upd_ne ntl]; exact hl9, ?_⟩
                    refine t9.put (G := fun k => if k = p then rowsUp c p ((kids c.L p).map fun k => takes (tab c k)) (j + 1) else if c.L.length + 1 ≤ k + i then tab c k else []) hdpe ?_ (fun k hk => by simp only [if_neg hk])
                    rw [if_pos rfl, ← rowsUp_put hro]
                    exact pd_put (rowsUp_nd _ _ _ _) pz ⟨ra, rb, rfl, hr1, hr2⟩
          · obtain ⟨y7, y8, y9, y10, rfl, s6, h6l, t6⟩ := p'
            refine ⟨_, _, _, _, _, _, rfl, s6, t6.l, t6.nd, fun k d' e => ?_⟩
            obtain ⟨kv, z, pz⟩ := t6.at_ k d' e
            refine ⟨kv, z, ?_⟩
            by_cases hk : k = p
            · subst hk
              rw [if_pos rfl] at pz
              rw [if_pos (by omega), tab_eq hC.wf hp, tabOf_up]
              exact pz
            · rw [if_neg hk] at pz
              have hkl : k < ds.length := (List.getElem?_eq_some_iff.mp e).1
              by_cases h2 : c.L.length + 1 ≤ k + i
              · rw [if_pos h2] at pz
                rw [if_pos (by omega)]
                exact pz
              · rw [if_neg h2] at pz
                rw [if_neg (by omega)]
                exact pz
      · obtain ⟨y4, y6, y7, y8, y9, y10, rfl, s2, t2⟩ := p
        refine ⟨_, rfl, q D ds H2 hD s2 hl hf ⟨t2.l, t2.nd, fun k d' e => ?_⟩⟩
        obtain ⟨kv, z, pz⟩ := t2.at_ k d' e
        refine ⟨kv, z, ?_⟩
        rw [if_pos (by omega)] at pz
        exact pz
end
end Oa
namespace Oat
/-! ### the least pair -/
theorem plt_iff {a b : Int × Nat} : plt a b = true ↔ a.1 < b.1 ∨ (a.1 = b.1 ∧ a.2 < b.2) := by
  unfold plt
  split
  · rename_i h
    rw [decide_eq_true_eq]
    omega
  · rename_i h
    rw [decide_eq_true_eq]
    omega
theorem plt_no {a b : Int × Nat} : plt a b = false ↔ ¬ (a.1 < b.1 ∨ (a.1 = b.1 ∧ a.2 < b.2)) := by
  rw [← plt_iff]
  cases plt a b <;> simp
theorem pmin_foldl : ∀ (r : List (Nat × Int)) (m : Int × Nat), (r.foldl (fun m y => pmin m (y.2, y.1)) m = m ∨ ∃ x ∈ r, r.foldl (fun m y => pmin m (y.2, y.1)) m = (x.2, x.1)) ∧ plt m (r.foldl (fun m y => pmin m (y.2, y.1)) m) = false ∧ ∀ x ∈ r, plt (x.2, x.1) (r.foldl (fun m y => pmin m (y.2, y.1)) m) = false
  | [], m => ⟨.inl rfl, plt_no.mpr (by show ¬ (m.1 < m.1 ∨ (m.1 = m.1 ∧ m.2 < m.2)); omega), fun _ h => by cases h⟩
  | y :: r, m => by
    obtain ⟨h1, h2, h3⟩ := pmin_foldl r (pmin m (y.2, y.1))
    rw [List.foldl_cons]
    generalize r.foldl (fun m y => pmin m (y.2, y.1)) (pmin m (y.2, y.1)) = z at h1 h2 h3
    by_cases c : plt (y.2, y.1) m = true
    · have e : pmin m (y.2, y.1) = (y.2, y.1) := if_pos c
      rw [e] at h1 h2
      have c' := plt_iff.mp c
      have h2' := plt_no.mp h2
      refine ⟨.inr ?_, plt_no.mpr (by dsimp only at c' h2' ⊢; omega), fun x hx => ?_⟩
      · rcases h1 with h1 | ⟨x, hx, h1⟩
        · exact ⟨y, List.mem_cons_self, h1⟩
        · exact ⟨x, List.mem_cons_of_mem _ hx, h1⟩
      · rcases List.mem_cons.mp hx with h | h
        · rw [h]; exact h2
        · exact h3 x h
    · have e : pmin m (y.2, y.1) = m := if_neg c
      rw [e] at h1 h2
      have c' := plt_no.mp (Bool.eq_false_iff.mpr c)
      have h2' := plt_no.mp h2
      refine ⟨?_, h2, fun x hx => ?_⟩
      · rcases h1 with h1 | ⟨x, hx, h1⟩
        · exact .inl h1
        · exact .inr ⟨x, List.mem_cons_of_mem _ hx, h1⟩
      · rcases List.mem_cons.mp hx with h | h
        · rw [h]
          exact plt_no.mpr (by dsimp only at c' h2' ⊢; omega)
        · exact h3 x h
theorem bestL_some {tb : List (Nat × Int)} (h : tb ≠ []) : ∃ m : Int × Nat, bestL tb = some m ∧ (m.2, m.1) ∈ tb ∧ ∀ x ∈ tb, plt (x.2, x.1) m = false := by
  cases tb with
  | nil => exact absurd rfl h
  | cons y r =>
    obtain ⟨h1, h2, h3⟩ := pmin_foldl r (y.2, y.1)
    refine ⟨_, rfl, ?_, fun x hx => ?_⟩
    · rcases h1 with h1 | ⟨x, hx, h1⟩
      · rw [h1]; exact List.mem_cons_self
      · rw [h1]; exact List.mem_cons_of_mem _ hx
    · rcases List.mem_cons.mp hx with h | h
      · rw [h]; exact h2
      · exact h3 x h
theorem bestL_none {tb : List (Nat × Int)} : bestL tb = none ↔ tb = [] := by
  cases tb <;> simp [bestL]
theorem bestL_uniq {tb : List (Nat × Int)} {m : Int × Nat} (h : (m.2, m.1) ∈ tb) (hm : ∀ x ∈ tb, plt (x.2, x.1) m = false) : bestL tb = some m := by
  obtain ⟨n, hn, h1, h2⟩ := bestL_some (List.ne_nil_of_mem h)
  have a := plt_no.mp (hm _ h1)
  have b := plt_no.mp (h2 _ h)
  rw [hn]
  congr 1
  dsimp only at a b
  exact Prod.ext (by omega) (by omega)
end Oat
namespace Oa
open PySem PySem.Spec PyProof.Rows L2 Oat
section
variable {P : Program} {w : World} {K : PySem.W.Frag} {mg : Str → Option Value} {base : Heap}
/-! ### best_left -/
def pairV (K : PySem.W.Frag) (H : Hp) (o : Option (Int × Nat)) (v : V) : Prop := match o with
  | none => v = .non
  | some m => ∃ p, v = .ref p ∧ SqT K H p [.int m.1, .int ((m.2 : Nat) : Int)]
def pairK (H : Hp) (v : V) : Int × Int := match v with
  | .ref t => (match H t with
    | some (.tup [.int a, .int b]) => (a, b)
    | _ => (0, 0))
  | _ => (0, 0)
theorem pairK_at {H : Hp} {t : Addr} {a b : Int} (h : H t = some (.tup [.int a, .int b])) : pairK H (.ref t) = (a, b) := by
  simp only [pairK, h]
/-- from turns to items -/
theorem turns_items {α : Type} {Rr : V → α → Prop} {G : List α} {ys : List V} (h : Paired (fun i v => ∃ e, G[i]? = some e ∧ Rr v e) (List.range G.length) ys) : Paired Rr ys G := by
  have : ∀ (F G : List α) (ys : List V), Paired (fun i v => ∃ e, (F ++ G)[i]? = some e ∧ Rr v e) (List.range' F.length G.length) ys → Paired Rr ys G := by
    intro F G
    induction G generalizing F with
    | nil => intro ys h; cases h; exact .nil
    | cons g G ih =>
      intro ys h
      rw [List.length_cons, List.range'_succ] at h
      cases h with
      | cons a b =>
        obtain ⟨e, he, r⟩ := a
        have e1 : e = g := by
          rw [List.getElem?_append_right (Nat.le_refl _), Nat.sub_self] at he
          exact (Option.some.inj he).symm
        subst e1
        refine .cons r (ih (F ++ [e]) _ ?_)
        rw [List.append_assoc, List.length_append]
        exact b
  exact this [] G ys (by rw [List.nil_append, List.length_nil, ← List.range_eq_range']; exact h)
theorem paired_mem {α β : Type} {R : α → β → Prop} : ∀ {xs : List α} {ys : List β} {x : α}, Paired R xs ys → x ∈ xs → ∃ y ∈ ys, R x y
  | _, _, _, .nil, h => by cases h
  | _, _, x, .cons (b := b) q t, h => by
    rcases List.mem_cons.mp h with h | h
    · subst h
      exact ⟨b, List.mem_cons_self, q⟩
    · obtain ⟨y, hy, r⟩ := paired_mem t h
      exact ⟨y, List.mem_cons_of_mem _ hy, r⟩
theorem paired_mem' {α β : Type} {R : α → β → Prop} : ∀ {xs : List α} {ys : List β} {y : β}, Paired R xs ys → y ∈ ys → ∃ x ∈ xs, R x y
  | _, _, _, .nil, h => by cases h
  | _, _, y, .cons (a := a) q t, h => by
    rcases List.mem_cons.mp h with h | h
    · subst h
      exact ⟨a, List.mem_cons_self, q⟩
    · obtain ⟨x, hx, r⟩ := paired_mem' t h
      exact ⟨x, List.mem_cons_of_mem _ hx, r⟩
def sp_best_left (K : PySem.W.Frag) : Sp := fun vs H Q _ => ∃ v tb, vs = [v] ∧ TakAt K H v tb ∧ (tb.map (·.1)).Nodup ∧ tb.length ≤ 100 ∧ ∀ v H', Same H H' → pairV K H' (bestL tb) v → Q v H'
theorem c_best_left (T : Txt K mg) : Cal P w K mg base CX0 1 "best_left" ["table"] (sp_best_left K) := by
  refine cal0 T.d_best_left sc_best_left (fun _ _ _ _ _ _ us hl => match us, hl with | [_], _ => rfl) (fun vs H Q E h => ?_) (fun f cdv A outer s H vs Q E hr h => ?_)
  · obtain ⟨v, tb, rfl, _⟩ := h
    rfl
  · obtain ⟨v, tb, rfl, ⟨d, kvs, rfl, hd, pd⟩, nd, h100, q⟩ := h
    refine ⟨_, (pss_cons (ps_set (i := 1) sc_best_left.nd rfl (Or.inl rfl) (pe_callB (srtPO K) rfl T.b_sorted (by decide +kernel) (pa_cons (pe_lock (pe_lc (own := [("some", 2)]) (g := gName 2) rfl sc_best_left.nd (pi_keys (pv 0)) (blkOk_by (own := [("some", 2)]) (N := ["table", "rows", "some"]) (sc := (defScope s_best_left)) (by decide +kernel)) (fun _ _ _ _ _ => pg_name (i := 2) sc_best_left.nd rfl (Or.inl rfl)) (fun _ _ _ _ _ => pts_nil) (fun _ _ _ _ _ => (pe_tup (pa_cons (pe_ix (ixT K) (pe_dget (hu_of hr) (pv 0) (pv 2) (fun _ _ => rfl)) pe_int (fun _ _ => rfl)) (pa_cons (pv 2) pa_nil)))))) pa_nil)))
      (pss_one (ps_ret (pe_ifExp (pt_cmpR (op_neLE K hr.units0) (pv 1) (pe_lst pa_nil) (nomark _)) (pe_ix (ixL K) (pv 1) pe_int (fun _ _ => rfl)) pe_non)))), ?_⟩
    refine ⟨d, .dK kvs, hd, trivial, fun od => ?_⟩
    have x1 : TExt H (upd H d (.frz od (.dK kvs))) := tx_upd (by rw [hd]; trivial)
    refine ⟨_, rfl, d, od, rfl, .inl ⟨kvs, upd_same, fun D hD => ?_⟩⟩
    refine lc_rel walk_keys hD (by rw [pd_len pd]; omega) (fun H' s => s _ _ upd_same) (fun _ => true) (fun i v H' => ∃ e, tb[i]? = some e ∧ ∃ p, v = .ref p ∧ H' p = some (.tup [.int e.2, .int ((e.1 : Nat) : Int)]))
      (fun i v H4 H5 l hl sb r => ?_) (fun i x H4 H5 l hi s4 hy y => ?_) (fun ys H4 s4 hy hp => ?_)
    · obtain ⟨e, he, p, rfl, hp⟩ := r
      exact ⟨e, he, p, rfl, sb _ _ (ne_of hp hl (fun z => nomatch z)) hp⟩
    · obtain ⟨rfl, k, v, hk, rfl⟩ := y
      obtain ⟨n, t, he, rfl, re⟩ := pd_at pd hk
      have dg : dget tb n = some t := dget_at nd he
      obtain ⟨v1, hv1, p, xs, rfl, hh⟩ := (pd_get n pd).2 t dg
      refine ⟨Same.refl _, rfl, fun Q' q' => q' H5 (Same.refl _), fun _ H6 s6 Q' q' => ?_⟩
      refine ⟨_, rfl, _, rfl, d, .ref p, rfl, .inl ⟨kvs, .inl _, .inr ⟨od, (s4.trans s6) _ _ upd_same⟩, rfl, hv1.symm⟩, p, _, 0, _, rfl, rfl, (x1.trans ((same_tx s4).trans (same_tx s6))).t hh, atI_nat (j := 0) rfl, _, rfl, (by show 2 ≤ sizeLine; decide), fun r nr => ?_⟩
      exact q' _ _ (same_new nr) ⟨_, he, r, rfl, upd_same⟩
    · have hfz : H4 d = some (.frz od (.dK kvs)) := s4 _ _ upd_same
      refine ⟨hfz, ?_⟩
      have hDd : D ≠ d := fun e => by rw [e, upd_same] at hD; cases hD
      have s5 : Same H (upd H4 d (.dK kvs)) := lock_same hd s4
      have hy5 : (upd H4 d (.dK kvs)) D = some (.lst ys) := by rw [upd_ne hDd]; exact hy
      have hpr : Paired (fun v e => ∃ p, v = .ref p ∧ (upd H4 d (.dK kvs)) p = some (.tup [.int e.2, .int ((e.1 : Nat) : Int)])) ys tb := by
        rw [show (List.range kvs.length).filter (fun _ => true) = List.range kvs.length by simp, pd_len pd] at hp
        refine paired_imp (turns_items (Rr := fun v e => ∃ p, v = .ref p ∧ H4 p = some (.tup [.int e.2, .int ((e.1 : Nat) : Int)])) hp) fun v e r => ?_
        obtain ⟨p, rfl, z⟩ := r
        exact ⟨p, rfl, by rw [upd_ne (ne_of z hfz (fun q => nomatch q))]; exact z⟩
      generalize (upd H4 d (.dK kvs)) = H5 at s5 hy5 hpr
      have hkey : ∀ v ∈ ys, ∃ e ∈ tb, ∃ p, v = .ref p ∧ H5 p = some (.tup [.int e.2, .int ((e.1 : Nat) : Int)]) := fun v hv => by
        obtain ⟨e, he, r⟩ := paired_mem hpr hv
        exact ⟨e, he, r⟩
      refine ⟨D, ys, pairK H5, rfl, sql hy5, fun v hv => ?_, fun zs p srt stb np => ?_⟩
      · obtain ⟨e, _, p, rfl, hp⟩ := hkey v hv
        exact ⟨p, rfl, by rw [pairK_at hp]; exact hp⟩
      · have s6 : Same H5 (upd H5 p (.lst zs)) := same_new np
        refine ⟨_, rfl, Nat.zero_le _, fun e0 ne0 => ?_⟩
        have s7 := s6.trans (same_new (o := .lst []) ne0)
        have hz7 : (upd (upd H5 p (.lst zs)) e0 (.lst [])) p = some (.lst zs) := by rw [upd_ne (ne_of_none upd_same ne0), upd_same]
        refine ⟨p, e0, zs, rfl, rfl, sql hz7, sql upd_same, _, rfl, ?_⟩
        cases zs with
        | nil =>
          have hys : ys = [] := List.Perm.nil_eq stb.perm |>.symm
          rw [hys] at hpr
          cases hpr
          exact iteF (q _ _ (s5.trans s7) rfl)
        | cons z zs =>
          refine iteT ?_
          have hz : z ∈ ys := stb.perm.subset List.mem_cons_self
          obtain ⟨e, he, pz, rfl, hpz⟩ := hkey z hz
          refine ⟨_, rfl, p, _, 0, _, rfl, rfl, sql hz7, atI_nat (j := 0) rfl, q _ _ (s5.trans s7) ?_⟩
          have hb : bestL tb = some (e.2, e.1) := by
            refine bestL_uniq he fun x hx => ?_
            obtain ⟨v, hv, pv, rfl, hpv⟩ := paired_mem' hpr hx
            have hv' : V.ref pv ∈ V.ref pz :: zs := stb.perm.symm.subset hv
            rcases List.mem_cons.mp hv' with h | h
            · injection h with h
              subst h
              rw [hpz] at hpv
              injection hpv with hpv
              injection hpv with hpv
              injection hpv with e1 e2
              injection e1 with e1
              injection e2 with e2 _
              injection e2 with e2
              refine plt_no.mpr ?_
              dsimp only
              omega
            · have hl := List.rel_of_pairwise_cons srt h
              have hl : SrtO.lexB (pairK H5 (.ref pv)) (pairK H5 (.ref pz)) = false := hl
              rw [pairK_at hpz, pairK_at hpv] at hl
              have hl := SrtO.lexB_no.mp hl
              refine plt_no.mpr ?_
              dsimp only at hl ⊢
              omega
          rw [hb]
          exact ⟨pz, rfl, sqt (s7 _ _ hpz)⟩
/-! ### least_of -/
theorem tak_of {H : Hp} {D : Addr} {ds : List Addr} {c : Case} (h : TabsAt K H D ds (tab c)) {k : Nat} {d : Addr} (e : ds[k]? = some d) : TakAt K H (.ref d) (takes (tab c k)) := by
  obtain ⟨kvs, z, pz⟩ := h.at_ k d e
  exact ⟨d, kvs, rfl, z, pd_heads pz⟩
theorem tab_len {c : Case} (wf : WfL c.L) {p : Nat} (hp : p ≤ c.L.length) : (tab c p).length ≤ c.left + 1 := by
  rw [tab_eq wf hp, tabOf_up]
  exact rowsUp_len _ _ _ _
theorem takes_len (t : Tab) : (takes t).length = t.length := by simp [takes]
def sp_least_of (K : PySem.W.Frag) : Sp := fun vs H Q _ => ∃ a b d c carts, vs = [.ref a, .ref b, .ref d, .int ((c.left : Nat) : Int)] ∧ CaseAt K H a b d c carts ∧ ∀ H', Same H H' → Q (oiV (least c)) H'
theorem c_least_of (T : Txt K mg) : Cal P w K mg base CX0 4 "least_of" ["land", "works", "wants", "left"] (sp_least_of K) := by
  refine cal0 T.d_least_of sc_least_of (fun _ _ _ _ _ _ us hl => match us, hl with | [_, _, _, _], _ => rfl) (fun vs H Q E h => ?_) (fun f cdv A outer s H vs Q E hr h => ?_)
  · obtain ⟨a, b, d, c, carts, rfl, _⟩ := h
    rfl
  · obtain ⟨a, b, d, c, carts, rfl, hC, q⟩ := h
    refine ⟨_, (pss_cons (ps_set (i := 4) sc_least_of.nd rfl (Or.inl rfl) (pcall (c_best_left T) (hr.mono (by omega)) (pa_cons (pe_ix (ixL K) (pcall (c_tables_of T) (hr.mono (by omega)) (pa_cons (pv 0) (pa_cons (pv 1) (pa_cons (pv 2) (pa_cons (pv 3) pa_nil))))) pe_int (fun _ _ => rfl)) pa_nil)))
      (pss_one (ps_ret (pe_ifExp (pt_cmpR op_isN (pv 4) pe_non (nomark _)) pe_non (pe_ix (ixT K) (pv 4) pe_int (fun _ _ => rfl)))))), ?_⟩
    have h6 : c.left ≤ 6 := Nat.le_trans hC.lf hC.c6
    refine ⟨_, rfl, _, rfl, _, rfl, _, rfl, a, b, d, c, carts, rfl, hC, fun D ds H1 nD s1 hl hf tb => ?_⟩
    have h0 : 0 < ds.length := by omega
    have e0 : ds[0]? = some ds[0] := List.getElem?_eq_getElem h0
    refine ⟨D, _, 0, .ref ds[0], rfl, rfl, sql tb.l, atI_nat (j := 0) (by rw [List.getElem?_map, e0]; rfl), ?_⟩
    refine ⟨_, _, rfl, tak_of tb e0, takes_nd (tab_nd hC.wf (Nat.zero_le _)), by rw [takes_len]; have := tab_len hC.wf (Nat.zero_le c.L.length); omega, fun v H2 s2 hv => ?_⟩
    unfold least at q
    cases hb : bestL (takes (tab c 0)) with
    | none =>
      rw [hb] at hv q
      have hv : v = .non := hv
      subst hv
      exact ⟨_, rfl, rfl, true, rfl, iteT (q _ (s1.trans s2))⟩
    | some m =>
      rw [hb] at hv q
      obtain ⟨p, rfl, hp⟩ := hv
      exact ⟨_, rfl, rfl, false, rfl, iteF ⟨_, rfl, p, _, 0, _, rfl, rfl, hp, rfl, q _ (s1.trans s2)⟩⟩
end
end Oa
namespace Oat
/-! ### partings: which counts, what sum -/
inductive Parts : List (List (Nat × Int)) → List Nat → Int → Nat → Prop
  | nil : Parts [] [] 0 0
  | snoc {ts : List (List (Nat × Int))} {part : List Nat} {s : Int} {n : Nat} {tb : List (Nat × Int)} {k : Nat} {t : Int} : Parts ts part s n → (k, t) ∈ tb → Parts (ts ++ [tb]) (part ++ [k]) (s + t) (n + k)
def FndOk (ts : List (List (Nat × Int))) (left : Nat) (F : Fnd) : Prop := ∀ e ∈ F, Parts ts e.2.2 e.2.1 e.1 ∧ e.1 ≤ left
theorem ok_add {ts : List (List (Nat × Int))} {left used : Nat} {u : Int × List Nat} {acc : Fnd} {tb : List (Nat × Int)} {s : Nat × Int} (hu : Parts ts u.2 u.1 used) (hs : s ∈ tb) (h : FndOk (ts ++ [tb]) left acc) : FndOk (ts ++ [tb]) left (addRow left used u acc s) := by
  unfold addRow
  split
  · rename_i hle
    intro e he
    rcases mem_dput he with h1 | h1
    · exact h e h1
    · subst h1
      refine ⟨?_, hle⟩
      have hnew : Parts (ts ++ [tb]) (u.2 ++ [s.1]) (u.1 + s.2) (used + s.1) := .snoc hu hs
      show Parts (ts ++ [tb]) (rmin _ _).2 (rmin _ _).1 (used + s.1)
      unfold rmin
      split
      · exact hnew
      · cases z : dget acc (used + s.1) with
        | none => exact hnew
        | some o => exact (h _ (mem_dget z)).1
  · exact h
theorem ok_inner {ts : List (List (Nat × Int))} {left used : Nat} {u : Int × List Nat} {tb : List (Nat × Int)} (hu : Parts ts u.2 u.1 used) : ∀ (t : List (Nat × Int)) (acc : Fnd), (∀ s ∈ t, s ∈ tb) → FndOk (ts ++ [tb]) left acc → FndOk (ts ++ [tb]) left (t.foldl (addRow left used u) acc)
  | [], _, _, h => h
  | s :: t, _, hs, h => ok_inner hu t _ (fun x hx => hs x (List.mem_cons_of_mem _ hx)) (ok_add hu (hs s List.mem_cons_self) h)
theorem ok_mid {ts : List (List (Nat × Int))} {left : Nat} {tb : List (Nat × Int)} : ∀ (F acc : Fnd), FndOk ts left F → FndOk (ts ++ [tb]) left acc → FndOk (ts ++ [tb]) left (F.foldl (fun acc e => tb.foldl (addRow left e.1 e.2) acc) acc)
  | [], _, _, h => h
  | e :: F, _, hF, h => ok_mid F _ (fun x hx => hF x (List.mem_cons_of_mem _ hx)) (ok_inner (hF e List.mem_cons_self).1 tb _ (fun _ hs => hs) h)
theorem ok_foldl {left : Nat} : ∀ (us ts : List (List (Nat × Int))) (F : Fnd), FndOk ts left F → FndOk (ts ++ us) left (us.foldl (stepBest left) F)
  | [], ts, _, h => by rw [List.append_nil]; exact h
  | u :: us, ts, F, h => by
    have h1 : FndOk (ts ++ [u]) left (stepBest left F u) := ok_mid F [] h (fun _ he => by cases he)
    have := ok_foldl us (ts ++ [u]) _ h1
    rw [List.append_assoc] at this
    exact this
theorem ok_bestF (ts : List (List (Nat × Int))) (left : Nat) : FndOk ts left (bestF ts left) := by
  have := ok_foldl (left := left) ts [] [(0, (0, []))] (fun e he => by
    rw [List.mem_singleton.mp he]
    exact ⟨.nil, Nat.zero_le _⟩)
  exact this
theorem rmin_foldl_mem : ∀ (r : Fnd) (e : Int × List Nat), r.foldl (fun m x => rmin m x.2) e = e ∨ ∃ x ∈ r, r.foldl (fun m x => rmin m x.2) e = x.2
  | [], _ => .inl rfl
  | x :: r, e => by
    rcases rmin_foldl_mem r (rmin e x.2) with h | ⟨y, hy, h⟩
    · rw [List.foldl_cons, h]
      unfold rmin
      split
      · exact .inr ⟨x, List.mem_cons_self, rfl⟩
      · exact .inl rfl
    · exact .inr ⟨y, List.mem_cons_of_mem _ hy, h⟩
theorem best_mem {ts : List (List (Nat × Int))} {left : Nat} {b : Int × List Nat} (h : best ts left = some b) : ∃ n, (n, b) ∈ bestF ts left := by
  unfold best at h
  cases hF : bestF ts left with
  | nil => rw [hF] at h; cases h
  | cons e r =>
    rw [hF] at h
    have h := Option.some.inj h
    rcases rmin_foldl_mem r e.2 with h1 | ⟨x, hx, h1⟩
    · exact ⟨e.1, by rw [← h, h1]; exact List.mem_cons_self⟩
    · exact ⟨x.1, by rw [← h, h1]; exact List.mem_cons_of_mem _ hx⟩
theorem best_parts {ts : List (List (Nat × Int))} {left : Nat} {b : Int × List Nat} (h : best ts left = some b) : ∃ n, n ≤ left ∧ Parts ts b.2 b.1 n := by
  obtain ⟨n, hn⟩ := best_mem h
  have := ok_bestF ts left _ hn
  exact ⟨n, this.2, this.1⟩
theorem Parts.len {ts : List (List (Nat × Int))} {part : List Nat} {s : Int} {n : Nat} (h : Parts ts part s n) : part.length = ts.length := by
  induction h with
  | nil => rfl
  | snoc _ _ ih => simp [ih]
theorem Parts.at_ {ts : List (List (Nat × Int))} {part : List Nat} {s : Int} {n : Nat} (h : Parts ts part s n) : ∀ (i : Nat) (k : Nat), part[i]? = some k → ∃ tb t, ts[i]? = some tb ∧ (k, t) ∈ tb := by
  induction h with
  | nil => intro i k h; simp at h
  | @snoc ts part s n tb k t h hm ih =>
    intro i k' hk
    have hl := h.len
    by_cases hi : i < part.length
    · rw [List.getElem?_append_left hi] at hk
      obtain ⟨tb', t', h1, h2⟩ := ih i k' hk
      exact ⟨tb', t', by rw [List.getElem?_append_left (by omega)]; exact h1, h2⟩
    · have hi2 : i = part.length := by
        have := (List.getElem?_eq_some_iff.mp hk).1
        simp at this
        omega
      subst hi2
      rw [List.getElem?_append_right (Nat.le_refl _), Nat.sub_self] at hk
      have := Option.some.inj hk
      subst this
      exact ⟨tb, t, by rw [hl, List.getElem?_append_right (Nat.le_refl _), Nat.sub_self]; rfl, hm⟩
/-! ### rows of a table -/
theorem tab_row {c : Case} (wf : WfL c.L) {p e : Nat} (hp : p ≤ c.L.length) {r : TRow} (h : dget (tab c p) e = some r) : e ≤ c.left ∧ Oat.rowOf c p ((kids c.L p).map fun k => takes (tab c k)) e = some r := by
  have hm := mem_dget h
  rw [tab_eq wf hp, tabOf_up] at hm
  have := rowsUp_mem hm
  exact ⟨by omega, this.2⟩
theorem takenOf_part {c : Case} {p e : Nat} {n : Int × List Nat} {r : TRow} (h : takenOf c p n e = some r) : r.part = n.2 := by
  unfold takenOf at h
  split at h
  · rw [← Option.some.inj h]
  · split at h
    · rw [← Option.some.inj h]
    · obtain ⟨o, _, rfl⟩ := Option.map_eq_some_iff.mp h
      rfl
theorem rowOf_best {c : Case} {p e : Nat} {ts : List (List (Nat × Int))} {r : TRow} (h : Oat.rowOf c p ts e = some r) : ∃ b, best ts e = some (b, r.part) := by
  unfold Oat.rowOf needOf at h
  cases hb : best ts e with
  | none => rw [hb] at h; cases h
  | some b =>
    rw [hb] at h
    have := takenOf_part h
    exact ⟨b.1, by rw [this]⟩
theorem dget_mem {α : Type} {F : List (Nat × α)} {k : Nat} {a : α} (h : (k, a) ∈ F) : (dget F k).isSome = true := by
  cases z : dget F k with
  | some b => rfl
  | none =>
    have : ∀ x ∈ F, x.1 ≠ k := by
      intro x hx
      induction F with
      | nil => cases hx
      | cons y F ih =>
        obtain ⟨j, b⟩ := y
        simp only [dget] at z
        split at z
        · cases z
        · rename_i hj
          rcases List.mem_cons.mp hx with e | e
          · subst e; exact hj
          · rcases List.mem_cons.mp h with e2 | e2
            · injection e2 with e2 _
              exact absurd e2.symm hj
            · exact ih e2 z e
    exact absurd rfl (this _ h)
theorem dget_takes {t : Tab} {k : Nat} : (dget (takes t) k).isSome = (dget t k).isSome := by
  induction t with
  | nil => rfl
  | cons x t ih =>
    obtain ⟨j, r⟩ := x
    show (dget ((j, r.tk) :: takes t) k).isSome = _
    simp only [dget]
    split
    · rfl
    · exact ih
theorem tab_part {c : Case} (wf : WfL c.L) {p e : Nat} (hp : p ≤ c.L.length) {r : TRow} (h : dget (tab c p) e = some r) :
    r.part.length = (kids c.L p).length ∧ ∀ (i k : Nat), r.part[i]? = some k → ∃ kid, (kids c.L p)[i]? = some kid ∧ (dget (tab c kid) k).isSome = true := by
  obtain ⟨_, hr⟩ := tab_row wf hp h
  obtain ⟨b, hb⟩ := rowOf_best hr
  obtain ⟨n, _, hP⟩ := best_parts hb
  have hl := hP.len
  rw [List.length_map] at hl
  refine ⟨hl, fun i k hk => ?_⟩
  obtain ⟨tb, t, h1, h2⟩ := hP.at_ i k hk
  rw [List.getElem?_map] at h1
  obtain ⟨kid, h3, rfl⟩ := Option.map_eq_some_iff.mp h1
  exact ⟨kid, h3, by rw [← dget_takes]; exact dget_mem h2⟩
/-! ### the told way -/
def setKids (cs : List Nat) (ks part : List Nat) : List Nat := (ks.zip part).foldl (fun cs x => cs.set x.1 x.2) cs
def cntStep (c : Case) (cs : List Nat) (p : Nat) : List Nat := match dget (tab c p) (cs.getD p 0) with
  | none => cs
  | some r => setKids cs (kids c.L p) r.part
def counts (c : Case) (e : Nat) : List Nat := (List.range (c.L.length + 1)).foldl (cntStep c) ((List.replicate (c.L.length + 1) 0).set 0 e)
def told (c : Case) : Option (List Nat) := (bestL (takes (tab c 0))).map fun m => counts c m.2
theorem setKids_len (ks part : List Nat) : ∀ cs : List Nat, (setKids cs ks part).length = cs.length := by
  unfold setKids
  generalize ks.zip part = l
  induction l with
  | nil => intro cs; rfl
  | cons x l ih => intro cs; rw [List.foldl_cons, ih, List.length_set]
theorem kids_nd (L : List Nat) (p : Nat) : (kids L p).Nodup := by
  unfold kids
  have h1 : ((List.range L.length).filter fun i => L.getD i 0 == p).Nodup := List.Nodup.sublist List.filter_sublist List.nodup_range
  refine List.Pairwise.map _ (fun a b (h : a ≠ b) => ?_) h1
  show a + 1 ≠ b + 1
  omega
theorem setKids_out {ks part cs : List Nat} {q : Nat} (h : q ∉ ks) : (setKids cs ks part)[q]? = cs[q]? := by
  unfold setKids
  have hz : ∀ x ∈ ks.zip part, x.1 ≠ q := fun x hx e => h (e ▸ (List.of_mem_zip (a := x.1) (b := x.2) hx).1)
  revert cs hz
  generalize ks.zip part = l
  induction l with
  | nil => intro cs _; rfl
  | cons x l ih =>
    intro cs hz
    rw [List.foldl_cons, ih (fun y hy => hz y (List.mem_cons_of_mem _ hy)), List.getElem?_set_ne (hz x List.mem_cons_self)]
theorem setKids_at : ∀ {ks part cs : List Nat} {i q k : Nat}, ks.Nodup → ks[i]? = some q → part[i]? = some k → q < cs.length → (setKids cs ks part)[q]? = some k
  | [], _, _, i, _, _, _, h, _, _ => by simp at h
  | _ :: _, [], _, i, _, _, _, _, h, _ => by simp at h
  | x :: ks, y :: part, cs, 0, q, k, nd, h1, h2, hq => by
    have h1 := Option.some.inj h1
    have h2 := Option.some.inj h2
    subst h1 h2
    show (setKids (cs.set x y) ks part)[x]? = some y
    rw [setKids_out (List.nodup_cons.mp nd).1, List.getElem?_set_self (by simpa using hq)]
  | x :: ks, y :: part, cs, i + 1, q, k, nd, h1, h2, hq => by
    show (setKids (cs.set x y) ks part)[q]? = some k
    exact setKids_at (List.nodup_cons.mp nd).2 (by simpa using h1) (by simpa using h2) (by simpa using hq)
/-- all places that are known so far have a row -/
def Known (c : Case) (i : Nat) (cs : List Nat) : Prop := cs.length = c.L.length + 1 ∧ ∀ p, p ≤ c.L.length → (p = 0 ∨ c.L.getD (p - 1) 0 < i) → (dget (tab c p) (cs.getD p 0)).isSome = true
theorem known_step {c : Case} (wf : WfL c.L) {i : Nat} {cs : List Nat} (hi : i ≤ c.L.length) (h : Known c i cs) : Known c (i + 1) (cntStep c cs i) ∧ ∃ r, dget (tab c i) (cs.getD i 0) = some r ∧ cntStep c cs i = setKids cs (kids c.L i) r.part := by
  have hk : (dget (tab c i) (cs.getD i 0)).isSome = true := h.2 i hi (by
    by_cases z : i = 0
    · exact .inl z
    · have := wf (i - 1) (by omega)
      exact .inr (by omega))
  obtain ⟨r, hr⟩ := Option.isSome_iff_exists.mp hk
  have he : cntStep c cs i = setKids cs (kids c.L i) r.part := by
    unfold cntStep
    rw [hr]
  refine ⟨?_, r, hr, he⟩
  rw [he]
  obtain ⟨hl, hp⟩ := tab_part wf hi hr
  refine ⟨by rw [setKids_len]; exact h.1, fun p hpl hpp => ?_⟩
  by_cases hm : p ∈ kids c.L i
  · obtain ⟨j, hj⟩ := List.getElem?_of_mem hm
    have hjl : j < r.part.length := by rw [hl]; exact (List.getElem?_eq_some_iff.mp hj).1
    obtain ⟨kid, h1, h2⟩ := hp j r.part[j] (List.getElem?_eq_getElem hjl)
    have : kid = p := Option.some.inj (h1.symm.trans hj)
    subst this
    rw [List.getD_eq_getElem?_getD, setKids_at (kids_nd _ _) hj (List.getElem?_eq_getElem hjl) (by rw [h.1]; omega)]
    exact h2
  · rw [List.getD_eq_getElem?_getD, setKids_out hm, ← List.getD_eq_getElem?_getD]
    refine h.2 p hpl ?_
    rcases hpp with z | z
    · exact .inl z
    · by_cases z0 : p = 0
      · exact .inl z0
      · right
        have : c.L.getD (p - 1) 0 ≠ i := fun e => hm (mem_kids.mpr ⟨p - 1, by omega, e, by omega⟩)
        omega
theorem known_start {c : Case} {m : Int × Nat} (h : bestL (takes (tab c 0)) = some m) : Known c 0 ((List.replicate (c.L.length + 1) 0).set 0 m.2) := by
  refine ⟨by simp, fun p hp hpp => ?_⟩
  have z : p = 0 := by
    rcases hpp with z | z
    · exact z
    · exact absurd z (Nat.not_lt_zero _)
  subst z
  have e : ((List.replicate (c.L.length + 1) 0).set 0 m.2).getD 0 0 = m.2 := by simp
  rw [e]
  obtain ⟨n, h1, h2, _⟩ := bestL_some (tb := takes (tab c 0)) (fun z => by rw [z] at h; cases h)
  have : n = m := Option.some.inj (h1.symm.trans h)
  subst this
  rw [← dget_takes]
  exact dget_mem h2
theorem known_upto {c : Case} (wf : WfL c.L) {m : Int × Nat} (h : bestL (takes (tab c 0)) = some m) : ∀ i, i ≤ c.L.length + 1 → Known c i ((List.range i).foldl (cntStep c) ((List.replicate (c.L.length + 1) 0).set 0 m.2))
  | 0, _ => known_start h
  | i + 1, hi => by
    rw [List.range_succ, List.foldl_append]
    exact (known_step wf (by omega) (known_upto wf h i (by omega))).1
end Oat
namespace Oa
open PySem PySem.Spec PyProof.Rows L2 Oat
section
variable {P : Program} {w : World} {K : PySem.W.Frag} {mg : Str → Option Value} {base : Heap}
/-! ### least -/
def sp_least (K : PySem.W.Frag) : Sp := fun vs H Q _ => ∃ a b d c carts, vs = [.ref a, .ref b, .ref d, .int ((c.left : Nat) : Int)] ∧ CaseAt K H a b d c carts ∧ c.room ≤ 20 ∧ ∀ H', Same H H' → Q (oiV (least c)) H'
theorem c_least (T : Txt K mg) : CalK P w K mg base CX0 5 "least" ["land", "works", "wants", "left"] 3 "left" (.int 0) (sp_least K) := by
  refine calK T.d_least sc_least rfl (fun _ _ _ _ _ _ us ws h1 h2 => match us, ws, h1, h2 with | [_, _, _], [_], _, _ => rfl) (fun _ _ _ _ _ _ us ws h1 h2 => match us, ws, h1, h2 with | [_, _, _], [_], _, _ => ⟨_, _, _, _, _, _, rfl, rfl, rfl⟩) (fun vs H Q E h => ?_) (fun f cdv A outer s H vs Q E hr h => ?_)
  · obtain ⟨a, b, d, c, carts, rfl, _⟩ := h
    rfl
  · obtain ⟨a, b, d, c, carts, rfl, hC, h20, q⟩ := h
    refine ⟨_, (pss_cons (ps_expr (pcall (c_look_case T) (hr.mono (by omega)) (pa_cons (pv 0) (pa_cons (pv 1) (pa_cons (pv 2) (pa_cons (pv 3) pa_nil))))))
      (pss_one (ps_ret (pcall (c_least_of T) (hr.mono (by omega)) (pa_cons (pv 0) (pa_cons (pv 1) (pa_cons (pv 2) (pa_cons (pv 3) pa_nil)))))))), ?_⟩
    refine ⟨_, rfl, _, rfl, _, rfl, _, rfl, a, b, d, c, carts, rfl, hC, h20, fun H1 s1 => ?_⟩
    exact ⟨_, rfl, _, rfl, _, rfl, _, rfl, a, b, d, c, carts, rfl, hC.same s1, fun H2 s2 => q H2 (s1.trans s2)⟩
/-! ### told_way -/
def toldV (H0 H : Hp) (o : Option (List Nat)) (v : V) : Prop := match o with
  | none => v = .non
  | some cs => ∃ l, v = .ref l ∧ H0 l = none ∧ H l = some (.lst (cs.map fun (n : Nat) => V.int (n : Int)))
def sp_told_way (K : PySem.W.Frag) : Sp := fun vs H Q _ => ∃ a b d c carts, vs = [.ref a, .ref b, .ref d, .int ((c.left : Nat) : Int)] ∧ CaseAt K H a b d c carts ∧ ∀ v H', Same H H' → toldV H H' (told c) v → Q v H'
theorem foldl_range_succ {α : Type} {f : α → Nat → α} {a : α} (n : Nat) : (List.range (n + 1)).foldl f a = f ((List.range n).foldl f a) n := by
  rw [List.range_succ, List.foldl_append]
  rfl
theorem map_set_int (cs : List Nat) (i k : Nat) : (cs.map fun (n : Nat) => V.int (n : Int)).set i (.int (k : Int)) = (cs.set i k).map fun (n : Nat) => V.int (n : Int) := by
  rw [List.map_set]
theorem ixN_nat {n j : Nat} (h : j < n) : ixN n (j : Int) = some j := by
  unfold ixN
  rw [if_pos (by omega), if_pos (by omega)]
  simp
end
end Oa
namespace Oa
open PySem PySem.Spec PyProof.Rows L2 Oat
section
variable {P : Program} {w : World} {K : PySem.W.Frag} {mg : Str → Option Value} {base : Heap}
/-! ### the law's town: a list of a list of ints and a count -/
structure Town (t n : Addr) (H : Hp) : Prop where
  ne : t ≠ n
  ex : ∃ (i : Int) (xs : List Int), H t = some (.lst [.ref n, .int i]) ∧ H n = some (.lst (xs.map V.int)) ∧ xs ≠ []
def TSame (t n : Addr) (H H' : Hp) : Prop := ∀ a o, a ≠ t → a ≠ n → H a = some o → H' a = some o
theorem TSame.refl {t n : Addr} (H : Hp) : TSame t n H H := fun _ _ _ _ e => e
theorem TSame.trans {t n : Addr} {H H1 H2 : Hp} (a : TSame t n H H1) (b : TSame t n H1 H2) : TSame t n H H2 := fun x o h1 h2 e => b x o h1 h2 (a x o h1 h2 e)
theorem tsame_of {t n : Addr} {H H' : Hp} (s : Same H H') : TSame t n H H' := fun a o _ _ e => s a o e
theorem Town.is_l {t n : Addr} {H : Hp} (h : Town t n H) : (∃ l, H t = some (.lst l)) ∧ ∃ l, H n = some (.lst l) := by
  obtain ⟨_, i, xs, h1, h2, _⟩ := h
  exact ⟨⟨_, h1⟩, ⟨_, h2⟩⟩
theorem Town.not_t {t n : Addr} {H : Hp} (h : Town t n H) {a : Addr} {o : HO} (e : H a = some o) (ho : ∀ l, o ≠ .lst l) : a ≠ t ∧ a ≠ n := by
  obtain ⟨⟨l, h1⟩, ⟨m, h2⟩⟩ := h.is_l
  constructor
  · rintro rfl
    rw [h1] at e
    exact ho l (Option.some.inj e).symm
  · rintro rfl
    rw [h2] at e
    exact ho m (Option.some.inj e).symm
theorem Town.fresh {t n : Addr} {H : Hp} (h : Town t n H) {a : Addr} (e : H a = none) : a ≠ t ∧ a ≠ n := by
  obtain ⟨⟨l, h1⟩, ⟨m, h2⟩⟩ := h.is_l
  exact ⟨fun z => (by rw [z, h1] at e; cases e), fun z => (by rw [z, h2] at e; cases e)⟩
theorem Town.same {t n : Addr} {H H' : Hp} (h : Town t n H) (s : Same H H') : Town t n H' := by
  obtain ⟨h0, i, xs, h1, h2, h3⟩ := h
  exact ⟨h0, i, xs, s _ _ h1, s _ _ h2, h3⟩
theorem Town.upd {t n : Addr} {H : Hp} (h : Town t n H) {a : Addr} {o : HO} (h1 : a ≠ t) (h2 : a ≠ n) : Town t n (upd H a o) := by
  obtain ⟨h0, i, xs, e1, e2, h3⟩ := h
  exact ⟨h0, i, xs, by rw [upd_ne h1.symm]; exact e1, by rw [upd_ne h2.symm]; exact e2, h3⟩
theorem Town.t {t n : Addr} {H H' : Hp} (h : Town t n H) (s : TSame t n H H') {a : Addr} {xs : List V} (e : SqT K H a xs) : SqT K H' a xs := by
  rcases e with (e | ⟨o, e⟩) | e
  · have := h.not_t e (fun l z => nomatch z)
    exact .inl (.inl (s _ _ this.1 this.2 e))
  · have := h.not_t e (fun l z => nomatch z)
    exact .inl (.inr ⟨o, s _ _ this.1 this.2 e⟩)
  · exact .inr e
theorem tsame_mut {t n : Addr} {H H' : Hp} {p : Addr} {o : HO} (e : TSame t n H H') (h : H p = none) : TSame t n H (upd H' p o) := fun a u h1 h2 ha => by
  rw [upd_ne (ne_of_none ha h)]
  exact e a u h1 h2 ha
/-! ### _law_town -/
def sp_law_town (K : PySem.W.Frag) : Sp := fun vs H Q _ => ∃ (a : Addr) (ns : List Int), vs = [.ref a] ∧ SqL K H a (ns.map V.int) ∧ ∀ t n H', Town t n H' → Same H H' → Q (.ref t) H'
theorem c__law_town (T : Txt K mg) : Cal P w K mg base CX0 1 "_law_town" ["script"] (sp_law_town K) := by
  refine cal0 T.d__law_town sc__law_town (fun _ _ _ _ _ _ us hl => match us, hl with | [_], _ => rfl) (fun vs H Q E h => ?_) (fun f cdv A outer s H vs Q E hr h => ?_)
  · obtain ⟨a, ns, rfl, _⟩ := h
    rfl
  · obtain ⟨a, ns, rfl, hS, q⟩ := h
    refine ⟨_, (pss_one (ps_ret (pe_lst (pa_cons (pe_ifExp (pt_cmpR (op_neLE K hr.units0) (pv 0) (pe_lst pa_nil) (nomark _)) (pe_callTy (listOf K) rfl T.b_list (by decide +kernel) (pa_cons (pv 0) pa_nil)) (pe_lst (pa_cons pe_int pa_nil))) (pa_cons pe_int pa_nil))))), ?_⟩
    refine ⟨_, rfl, ⟨by show 0 ≤ sizeLine; exact Nat.zero_le _, fun z nz => ?_⟩⟩
    have s1 : Same H (upd H z (.lst [])) := same_new nz
    refine ⟨a, z, _, rfl, rfl, same_l s1 hS, sql upd_same, _, rfl, ?_⟩
    have fin : ∀ (n : Addr) (H2 : Hp) (xs : List Int), Same H H2 → H2 n = some (.lst (xs.map V.int)) → xs ≠ [] → ∀ t, H2 t = none → Q (.ref t) (upd H2 t (.lst [.ref n, .int 0])) := fun n H2 xs s2 hn hx t ht => by
      have hne : t ≠ n := fun z => by rw [z, hn] at ht; cases ht
      exact q t n _ ⟨hne, 0, xs, upd_same, by rw [upd_ne hne.symm]; exact hn, hx⟩ (s2.trans (same_new ht))
    cases ns with
    | nil =>
      refine iteF ⟨by show 1 ≤ sizeLine; decide, fun n hn => ?_⟩
      refine ⟨by show 2 ≤ sizeLine; decide, fun t ht => ?_⟩
      exact fin n _ [0] (s1.trans (same_new hn)) upd_same (by simp) t ht
    | cons x xs =>
      refine iteT ?_
      refine ⟨_, rfl, a, _, rfl, .inl (same_l s1 hS), fun n hn => ?_⟩
      refine ⟨by show 2 ≤ sizeLine; decide, fun t ht => ?_⟩
      exact fin n _ (x :: xs) (s1.trans (same_new hn)) upd_same (by simp) t ht
/-! ### _law_draw -/
def sp_law_draw : Sp := fun vs H Q _ => ∃ t n c, vs = [.ref t, .int ((c : Nat) : Int)] ∧ Town t n H ∧ 1 ≤ c ∧ c < 1073741824 ∧ ∀ (r : Nat) H', r < c → Town t n H' → TSame t n H H' → Q (.int (r : Int)) H'
theorem emod_nat {x : Int} {c : Nat} (h : 1 ≤ c) : ∃ r : Nat, x % (c : Int) = (r : Int) ∧ r < c := by
  have h1 := Int.emod_nonneg x (show (c : Int) ≠ 0 by omega)
  have h2 := Int.emod_lt_of_pos x (show 0 < (c : Int) by omega)
  exact ⟨(x % (c : Int)).toNat, by omega, by omega⟩
theorem c__law_draw (T : Txt K mg) : Cal P w K mg base CX0 1 "_law_draw" ["town", "count"] sp_law_draw := by
  refine cal0 T.d__law_draw sc__law_draw (fun _ _ _ _ _ _ us hl => match us, hl with | [_, _], _ => rfl) (fun vs H Q E h => ?_) (fun f cdv A outer s H vs Q E hr h => ?_)
  · obtain ⟨t, n, c, rfl, _⟩ := h
    rfl
  · obtain ⟨t, n, c, rfl, ⟨hne, i, xs, ht, hn, hx⟩, h1, h2, q⟩ := h
    refine ⟨_, (pss_cons (ps_set (i := 2) sc__law_draw.nd rfl (Or.inl rfl) (pe_ix (ixL K) (pv 0) pe_int (fun _ _ => rfl)))
      (pss_cons (ps_asg (pe_op op_add (pe_ix (ixL K) (pv 0) pe_int (fun _ _ => rfl)) pe_int) (pg_sub (pv 0) pe_int set_list))
      (pss_cons (ps_set (i := 3) sc__law_draw.nd rfl (Or.inl rfl) (pe_op op_mod (pe_ix (ixL K) (pv 0) pe_int (fun _ _ => rfl)) (pe_callB (lenS K) rfl T.b_len PySem.boot_len (pa_cons (pv 2) pa_nil))))
      (pss_cons (ps_set (i := 4) sc__law_draw.nd rfl (Or.inl rfl) (pe_ix (ixL K) (pv 2) (pv 3) (fun _ _ => rfl)))
      (pss_cons (ps_if (pt_cmpR op_ge (pv 4) pe_int (nomark _)) (pss_cons (ps_asg (pe_op op_fdiv (pv 4) (pv 1)) (pg_sub (pv 2) (pv 3) set_list))
      (pss_one (ps_ret (pe_op op_mod (pv 4) (pv 1))))) pss_nil)
      (pss_cons (ps_set (i := 5) sc__law_draw.nd rfl (Or.inl rfl) (pe_op op_mod (pe_op op_add (pv 4) (pe_op op_mul pe_int (pe_ix (ixL K) (pv 0) pe_int (fun _ _ => rfl)))) pe_int))
      (pss_cons (ps_set (i := 5) sc__law_draw.nd rfl (Or.inl rfl) (pe_op op_mod (pe_op op_pow (pv 5) pe_int) pe_int))
      (pss_one (ps_ret (pe_op op_mod (pe_op op_fdiv (pe_op op_mod (pe_op op_add (pe_op op_mul (pe_op op_fdiv (pv 5) pe_int) pe_int) (pv 5)) pe_int) pe_int) (pv 1))))))))))), ?_⟩
    refine ⟨_, rfl, t, _, 0, .ref n, rfl, rfl, sql ht, rfl, ?_⟩
    refine ⟨_, rfl, t, _, 1, .int i, rfl, rfl, sql ht, rfl, _, _, rfl, rfl, ?_⟩
    refine ⟨_, rfl, t, _, 1, 1, rfl, rfl, ht, rfl, ?_⟩
    have ht2 : (upd H t (.lst [.ref n, .int (i + 1)])) t = some (.lst [.ref n, .int (i + 1)]) := upd_same
    have hn2 : (upd H t (.lst [.ref n, .int (i + 1)])) n = some (.lst (xs.map V.int)) := by rw [upd_ne hne.symm]; exact hn
    have s2 : TSame t n H (upd H t (.lst [.ref n, .int (i + 1)])) := fun a o ha _ e => by rw [upd_ne ha]; exact e
    show (tSeq _ _) _ [_, _, _, _, _, _] (upd H t (.lst [.ref n, .int (i + 1)]))
    generalize (upd H t (.lst [.ref n, .int (i + 1)])) = H2 at ht2 hn2 s2
    have hl : 1 ≤ xs.length := by cases xs with | nil => exact absurd rfl hx | cons _ _ => simp
    obtain ⟨r, hr1, hr2⟩ := emod_nat (x := i + 1) hl
    have hlm : (xs.map V.int).length = xs.length := by simp
    refine ⟨_, rfl, t, _, 1, .int (i + 1), rfl, rfl, sql ht2, rfl, _, rfl, n, _, rfl, .inl (sql hn2), _, _, rfl, rfl, by omega, ?_⟩
    dsimp only
    rw [hlm, hr1]
    have hxr : (xs.map V.int)[r]? = some (.int xs[r]) := by rw [List.getElem?_map, List.getElem?_eq_getElem hr2]; rfl
    refine ⟨_, rfl, _, rfl, n, _, _, .int xs[r], rfl, rfl, sql hn2, atI_nat hxr, ?_⟩
    generalize xs[r] = cell
    refine ⟨_, rfl, _, _, rfl, rfl, _, rfl, ite2 (fun c1 => ?_) (fun c1 => ?_)⟩
    · refine ⟨_, rfl, _, rfl, _, _, rfl, rfl, ⟨by omega, by omega⟩, ?_⟩
      refine ⟨_, rfl, _, rfl, n, _, _, r, rfl, rfl, hn2, ixN_nat (by omega), ?_⟩
      refine ⟨_, rfl, _, rfl, _, _, rfl, rfl, by omega, ?_⟩
      obtain ⟨k, hk1, hk2⟩ := emod_nat (x := cell) h1
      dsimp only
      rw [hk1]
      refine q k _ hk2 ⟨hne, i + 1, xs.set r (cell / (c : Int)), by rw [upd_ne hne]; exact ht2, ?_, ?_⟩ (fun a o ha hb e => by rw [upd_ne hb]; exact s2 a o ha hb e)
      · rw [upd_same, List.map_set]
      · intro z
        exact hx (by simpa using z)
    · refine ⟨_, rfl, _, rfl, t, _, 1, .int (i + 1), rfl, rfl, sql ht2, rfl, _, _, rfl, rfl, .inl ⟨by decide, by decide⟩, _, _, rfl, rfl, _, _, rfl, rfl, (by dsimp only; decide), ?_⟩
      obtain ⟨m1, hm1, hm2⟩ := emod_nat (x := cell + 104729 * (i + 1)) (c := 4294967291) (by decide)
      have hm1 : (cell + 104729 * (i + 1)) % 4294967291 = (m1 : Int) := hm1
      dsimp only
      rw [hm1]
      refine ⟨_, rfl, _, _, rfl, rfl, ⟨by decide, by decide, by omega⟩, _, _, rfl, rfl, (by dsimp only; decide), ?_⟩
      obtain ⟨m2, hq1, hq2⟩ := emod_nat (x := (m1 : Int) ^ (5 : Int).toNat) (c := 4294967279) (by decide)
      have hq1 : (m1 : Int) ^ (5 : Int).toNat % 4294967279 = (m2 : Int) := hq1
      dsimp only
      rw [hq1]
      refine ⟨_, rfl, _, _, rfl, rfl, ⟨by decide, by decide⟩, _, _, rfl, rfl, .inr ⟨by decide, by decide⟩, _, rfl, _, _, rfl, rfl, _, _, rfl, rfl, (by dsimp only; decide), _, _, rfl, rfl, ⟨by decide, by decide⟩, _, rfl, _, _, rfl, rfl, by omega, ?_⟩
      obtain ⟨k, hk1, hk2⟩ := emod_nat (x := ((m2 : Int) / 64 * 69621 + m2) % 4294967231 / 8) h1
      dsimp only
      rw [hk1]
      exact q k _ hk2 ⟨hne, i + 1, xs, ht2, hn2, hx⟩ s2
/-! ### _law_pick -/
def sp_law_pick : Sp := fun vs H Q _ => ∃ t n l xs, vs = [.ref t, .ref l] ∧ Town t n H ∧ H l = some (.lst xs) ∧ l ≠ t ∧ l ≠ n ∧ 1 ≤ xs.length ∧ xs.length < 1000 ∧ ∀ x H', x ∈ xs → Town t n H' → TSame t n H H' → Q x H'
theorem c__law_pick (T : Txt K mg) : Cal P w K mg base CX0 2 "_law_pick" ["town", "some"] sp_law_pick := by
  refine cal0 T.d__law_pick sc__law_pick (fun _ _ _ _ _ _ us hl => match us, hl with | [_, _], _ => rfl) (fun vs H Q E h => ?_) (fun f cdv A outer s H vs Q E hr h => ?_)
  · obtain ⟨t, n, l, xs, rfl, _⟩ := h
    rfl
  · obtain ⟨t, n, l, xs, rfl, hT, hl, h1, h2, h3, h4, q⟩ := h
    refine ⟨_, (pss_one (ps_ret (pe_ix (ixL K) (pv 1) (pcall (c__law_draw T) (hr.mono (by omega)) (pa_cons (pv 0) (pa_cons (pe_callB (lenS K) rfl T.b_len PySem.boot_len (pa_cons (pv 1) pa_nil)) pa_nil))) (fun _ _ => rfl)))), ?_⟩
    refine ⟨_, rfl, _, rfl, _, rfl, l, _, rfl, .inl (sql hl), t, n, xs.length, rfl, hT, h3, by omega, fun r H' hr' hT' s' => ?_⟩
    refine ⟨l, xs, _, xs[r], rfl, rfl, sql (s' _ _ h1 h2 hl), atI_nat (List.getElem?_eq_getElem hr'), ?_⟩
    exact q _ _ (List.getElem_mem hr') hT' s'
/-! ### _law_land -/
def sp_law_land (K : PySem.W.Frag) : Sp := fun vs H Q _ => ∃ t n m, vs = [.ref t, .int ((m + 1 : Nat) : Int)] ∧ Town t n H ∧ m < 1000 ∧ ∀ a L H', L.length = m → WfL L → SqT K H' a (landV L) → Town t n H' → TSame t n H H' → Q (.ref a) H'
theorem wfL_snoc {L : List Nat} {p : Nat} (h : WfL L) (hp : p ≤ L.length) : WfL (L ++ [p]) := by
  intro i hi
  rw [List.length_append, List.length_singleton] at hi
  by_cases e : i < L.length
  · rw [List.getD_eq_getElem?_getD, List.getElem?_append_left e, ← List.getD_eq_getElem?_getD]
    exact h i e
  · have : i = L.length := by omega
    subst this
    rw [List.getD_eq_getElem?_getD, List.getElem?_append_right (Nat.le_refl _), Nat.sub_self]
    exact hp
theorem c__law_land (T : Txt K mg) : Cal P w K mg base CX0 3 "_law_land" ["town", "count"] (sp_law_land K) := by
  refine cal0 T.d__law_land sc__law_land (fun _ _ _ _ _ _ us hl => match us, hl with | [_, _], _ => rfl) (fun vs H Q E h => ?_) (fun f cdv A outer s H vs Q E hr h => ?_)
  · obtain ⟨t, n, m, rfl, _⟩ := h
    rfl
  · obtain ⟨t, n, m, rfl, hT, hm, q⟩ := h
    refine ⟨_, (pss_cons (ps_set (i := 2) sc__law_land.nd rfl (Or.inl rfl) (pe_lst (pa_cons pe_non pa_nil)))
      (pss_cons (ps_for PassesOwn.never rfl (pi_range2 rfl T.b_range (pa_cons pe_int (pa_cons (pv 1) pa_nil))) (pg_name (i := 3) sc__law_land.nd rfl (Or.inl rfl)) (pss_one (ps_expr (pe_bm PySem.F.plainAttrs_list PySem.F.slot_list_append PySem.F.type_list_append mt_append (pv 2) (pa_cons (pcall (c__law_pick T) (hr.mono (by omega)) (pa_cons (pv 0) (pa_cons (pe_lst (pa_cons (pe_op op_sub (pv 3) pe_int) (pa_cons (pe_op op_sub (pv 3) pe_int) (pa_cons (pcall (c__law_draw T) (hr.mono (by omega)) (pa_cons (pv 0) (pa_cons (pv 3) pa_nil))) pa_nil)))) pa_nil))) pa_nil)))))
      (pss_one (ps_ret (pe_callTy (tupOf K) rfl T.b_tuple (by decide +kernel) (pa_cons (pv 2) pa_nil)))))), ?_⟩
    refine ⟨by show 1 ≤ sizeLine; decide, fun p np => ?_⟩
    obtain ⟨pt, pn⟩ := hT.fresh np
    refine ⟨_, rfl, _, _, rfl, ⟨by decide, by decide, by omega, by omega⟩, ?_⟩
    rw [show (((m + 1 : Nat) : Int) - 1).toNat = m by omega]
    refine for_it walk_range (fun i σ H4 => ∃ y L, σ = [some (.ref t), some (.int ((m + 1 : Nat) : Int)), some (.ref p), y] ∧ Town t n H4 ∧ TSame t n H H4 ∧ L.length = i ∧ WfL L ∧ H4 p = some (.lst (landV L)))
      ⟨none, [], rfl, hT.upd pt pn, tsame_mut (TSame.refl _) np, rfl, (fun i hi => absurd hi (Nat.not_lt_zero i)), upd_same⟩ (fun _ _ _ _ _ => trivial) (fun i x σ H4 H5 hi pp y => ?_) (fun σ H4 pp => ?_)
    · obtain ⟨y0, L, rfl, hT4, s4, hl, wf, hp⟩ := pp
      obtain ⟨rfl, rfl⟩ := y
      subst hl
      have e1 : (1 : Int) + (L.length : Int) = ((L.length + 1 : Nat) : Int) := by omega
      have e2 : ((L.length + 1 : Nat) : Int) - 1 = (L.length : Int) := by omega
      dsimp only
      rw [e1]
      refine ⟨_, rfl, .inl ⟨rfl, _, sql hp⟩, _, rfl, _, rfl, _, _, rfl, rfl, _, rfl, _, _, rfl, rfl, _, rfl, _, rfl, t, n, L.length + 1, rfl, hT4, by omega, by omega, fun r H6 hr6 hT6 s6 => ?_⟩
      refine ⟨by show 3 ≤ sizeLine; decide, fun l nl => ?_⟩
      obtain ⟨lt, ln⟩ := hT6.fresh nl
      refine ⟨t, n, l, _, rfl, hT6.upd lt ln, upd_same, lt, ln, by show 1 ≤ 3; decide, by show 3 < 1000; decide, fun x H7 hx hT7 s7 => ?_⟩
      have hp7 : H7 p = some (.lst (landV L)) := s7 _ _ pt pn (by rw [upd_ne (fun z => by rw [← z, s6 _ _ pt pn hp] at nl; cases nl)]; exact s6 _ _ pt pn hp)
      refine ⟨p, _, _, rfl, rfl, hp7, Nat.lt_of_lt_of_le (show (landV L).length < 1001 by rw [landV_len]; omega) (by decide), ?_⟩
      have s47 : TSame t n H5 H7 := s6.trans ((tsame_of (same_new nl)).trans s7)
      obtain ⟨k, hk, rfl⟩ : ∃ k : Nat, k ≤ L.length ∧ x = .int (k : Int) := by
        simp only [List.mem_cons, List.mem_nil_iff, or_false] at hx
        rcases hx with hx | hx | hx
        · exact ⟨L.length, Nat.le_refl _, hx.trans (congrArg V.int e2)⟩
        · exact ⟨L.length, Nat.le_refl _, hx.trans (congrArg V.int e2)⟩
        · exact ⟨r, by omega, hx⟩
      refine ⟨_, L ++ [k], rfl, hT7.upd pt pn, tsame_mut (s4.trans s47) np, by simp, wfL_snoc wf hk, ?_⟩
      rw [upd_same]
      simp [landV]
    · obtain ⟨y0, L, rfl, hT4, s4, hl, wf, hp⟩ := pp
      refine ⟨_, rfl, p, _, rfl, .inl ⟨sql hp, fun a na => ?_⟩⟩
      exact q a L _ hl wf (sqt upd_same) (hT4.same (same_new na)) (s4.trans (tsame_of (same_new na)))
/-! ### _law_wants -/
def sp_law_wants (K : PySem.W.Frag) : Sp := fun vs H Q _ => ∃ t n m o, vs = [.ref t, .int ((m : Nat) : Int), .int ((o : Nat) : Int)] ∧ Town t n H ∧ m < 1000 ∧ 3 ≤ o ∧ o ≤ 999 ∧ ∀ a W H', W.length = m → (∀ u, some u ∈ W → u ≤ o) → SqT K H' a (wantsV W) → Town t n H' → TSame t n H H' → Q (.ref a) H'
/-! ### _law_works -/
def sp_law_works (K : PySem.W.Frag) : Sp := fun vs H Q _ => ∃ t n, vs = [.ref t] ∧ Town t n H ∧ ∀ b carts room H', 1 ≤ carts → carts ≤ 3 → 2 ≤ room → room ≤ 9 → SqT K H' b (worksV carts room) → Town t n H' → TSame t n H H' → Q (.ref b) H'
/-! ### _law_case -/
def sp_law_case (K : PySem.W.Frag) : Sp := fun vs H Q _ => ∃ t n m o, vs = [.ref t, .int ((m + 1 : Nat) : Int), .int ((o : Nat) : Int)] ∧ Town t n H ∧ m < 30 ∧ 3 ≤ o ∧ o ≤ 999 ∧
  ∀ p a b d c carts H', SqT K H' p [.ref a, .ref b, .ref d, .int ((c.left : Nat) : Int)] → CaseAt K H' a b d c carts → c.L.length = m → carts ≤ 3 → c.room ≤ 9 → (∀ u, some u ∈ c.W → u ≤ o) → Town t n H' → TSame t n H H' → Q (.ref p) H'
end
end Oa
namespace Oa
open PySem PySem.Spec PyProof.Rows L2 Oat
section
variable {P : Program} {w : World} {K : PySem.W.Frag} {mg : Str → Option Value} {base : Heap}
/-! ### _law_after -/
theorem c__law_after (T : Txt K mg) : Cal P w K mg base CX0 1 "_law_after" ["land_here", "place_here"] (sp_beyond K) := by
  refine cal0 T.d__law_after sc__law_after (fun _ _ _ _ _ _ us hl => match us, hl with | [_, _], _ => rfl) (fun vs H Q E h => ?_) (fun f cdv A outer s H vs Q E hr h => ?_)
  · obtain ⟨a, L, p, rfl, _⟩ := h
    rfl
  · obtain ⟨a, L, p, rfl, hS, hL, q⟩ := h
    refine ⟨_, (pss_one (ps_ret (pe_lc (own := [("k", 2)]) (g := gName 2) rfl sc__law_after.nd (pi_range2 rfl T.b_range (pa_cons pe_int (pa_cons (pe_callB (lenS K) rfl T.b_len PySem.boot_len (pa_cons (pv 0) pa_nil)) pa_nil))) (blkOk_by (own := [("k", 2)]) (N := ["land_here", "place_here", "k"]) (sc := (defScope s__law_after)) (by decide +kernel)) (fun _ _ _ _ _ => pg_name (i := 2) sc__law_after.nd rfl (Or.inl rfl)) (fun _ _ _ _ _ => pts_one (pt_cmpR op_eq (pe_ix (ixT K) (pv 0) (pv 2) (fun _ _ => rfl)) (pv 1) (nomark _))) (fun _ _ _ _ _ => (pv 2))))), ?_⟩
    have el : (landV L).length = L.length + 1 := landV_len L
    refine ⟨_, rfl, a, _, rfl, .inr hS, _, _, rfl, ⟨by decide, by decide, by omega, by omega⟩, fun D hD => ?_⟩
    refine lc_rel walk_range hD (by omega) (fun _ _ => trivial) (fun i => L.getD i 0 == p) (fun i v _ => v = .int ((i + 1 : Nat) : Int)) (fun _ _ _ _ _ _ _ h => h) (fun i x H2 H3 l hi s1 hy y => ?_) (fun ys H2 s1 hy hp => ?_)
    · obtain ⟨rfl, rfl⟩ := y
      have hi' : i < L.length := by omega
      have e1 : (1 : Int) + (i : Int) = ((i + 1 : Nat) : Int) := by omega
      refine ⟨Same.refl _, rfl, fun Q' q' => ?_, fun _ H4 _ Q' q' => ?_⟩
      · refine ⟨_, rfl, _, rfl, a, _, _, _, rfl, rfl, same_t s1 hS, (by rw [e1]; exact atI_nat (landV_at hi')), _, rfl, rfl, _, rfl, ?_⟩
        have e2 : decide (V.int ((L.getD i 0 : Nat) : Int) = V.int ((p : Nat) : Int)) = (L.getD i 0 == p) := by
          rw [Bool.eq_iff_iff, decide_eq_true_eq, beq_iff_eq]
          exact ⟨fun h => by injection h with h; omega, fun h => by rw [h]⟩
        have q2 := q' H3 (Same.refl _)
        rw [← e2] at q2
        exact q2
      · exact ⟨_, rfl, q' _ H4 (Same.refl _) (congrArg V.int e1)⟩
    · have e3 : (((landV L).length : Int) - 1).toNat = L.length := by omega
      rw [e3] at hp
      have e4 := paired_vals (g := fun i => V.int ((i + 1 : Nat) : Int)) (fun _ _ h => h) hp
      refine q D H2 hD s1 ?_
      rw [hy, e4]
      unfold kids
      rw [List.map_map]
      rfl
/-! ### _law_is_wanted -/
def sp_law_is_wanted (K : PySem.W.Frag) (m : Nat) : Sp := fun vs H Q _ => ∃ a L d W p, vs = [.ref a, .ref d, .int ((p : Nat) : Int)] ∧ SqT K H a (landV L) ∧ SqT K H d (wantsV W) ∧ WfL L ∧ L.length < 30 ∧ W.length = L.length + 1 ∧ p ≤ L.length ∧ L.length < m + p ∧ ∀ H', Same H H' → Q (.bl (wanted L W p)) H'
theorem wants_at {W : List (Option Nat)} {p : Nat} (h : p < W.length) : (wantsV W)[p]? = some (optV (W.getD p none)) := by
  unfold wantsV
  rw [List.getElem?_map, List.getElem?_eq_getElem h, List.getD_eq_getElem?_getD, List.getElem?_eq_getElem h]
  rfl
theorem filter_any {α : Type} (l : List α) (d : α) (f : α → Bool) : ((List.range l.length).filter fun i => f (l.getD i d)).isEmpty = !l.any f := by
  rw [Bool.eq_iff_iff]
  simp only [List.isEmpty_iff, List.filter_eq_nil_iff, List.mem_range, Bool.not_eq_true', List.any_eq_false]
  constructor
  · intro h x hx
    obtain ⟨i, hi⟩ := List.getElem?_of_mem hx
    have hl := (List.getElem?_eq_some_iff.mp hi).1
    have := h i hl
    rw [List.getD_eq_getElem?_getD, hi] at this
    exact this
  · intro h i hi
    have := h l[i] (List.getElem_mem hi)
    rw [List.getD_eq_getElem?_getD, List.getElem?_eq_getElem hi]
    exact this
theorem c_is_wanted_up (T : Txt K mg) : ∀ m, Cal P w K mg base CX0 (m + 2) "_law_is_wanted" ["land_here", "wants_here", "place_here"] (sp_law_is_wanted K m)
  | 0 => (none_left T.d__law_is_wanted (fun _ _ _ _ _ _ us hl => match us, hl with | [_, _, _], _ => rfl) fun vs H Q E h => by
      obtain ⟨a, L, d, W, p, _, _, _, _, _, _, h1, h2, _⟩ := h
      omega).mono (by omega)
  | m + 1 => by
    have ih := c_is_wanted_up T m
    refine cal0 T.d__law_is_wanted sc__law_is_wanted (fun _ _ _ _ _ _ us hl => match us, hl with | [_, _, _], _ => rfl) (fun vs H Q E h => ?_) (fun f cdv A outer s H vs Q E hr h => ?_)
    · obtain ⟨a, L, d, W, p, rfl, _⟩ := h
      rfl
    · obtain ⟨a, L, d, W, p, rfl, hL, hW, wf, hn, hl, hp, hm, q⟩ := h
      refine ⟨_, (pss_cons (ps_if (pt_cmpR op_notN (pe_ix (ixT K) (pv 1) (pv 2) (fun _ _ => rfl)) pe_non (nomark _)) (pss_one (ps_ret pe_bl)) pss_nil)
      (pss_one (ps_ret (pe_cmpR (op_neLE K hr.units0) (pe_lc (own := [("k", 3)]) (g := gName 3) rfl sc__law_is_wanted.nd (piL K (pcall (c__law_after T) (hr.mono (by omega)) (pa_cons (pv 0) (pa_cons (pv 2) pa_nil)))) (blkOk_by (own := [("k", 3)]) (N := ["land_here", "wants_here", "place_here", "k"]) (sc := (defScope s__law_is_wanted)) (by decide +kernel)) (fun _ _ _ _ _ => pg_name (i := 3) sc__law_is_wanted.nd rfl (Or.inl rfl)) (fun _ _ _ _ _ => pts_one (pt_val (pcall ih (hr.mono (by omega)) (pa_cons (pv 0) (pa_cons (pv 1) (pa_cons (pv 3) pa_nil)))))) (fun _ _ _ _ _ => (pv 3))) (pe_lst pa_nil) (nomark _))))), ?_⟩
      have ha : atI (wantsV W) ((p : Nat) : Int) = some (optV (W.getD p none)) := atI_nat (wants_at (by omega))
      rw [wanted_eq wf hp] at q
      refine ⟨_, rfl, _, rfl, d, _, _, _, rfl, rfl, hW, ha, ?_⟩
      cases hw : W.getD p none with
      | some u =>
        rw [hw] at q
        exact ⟨rfl, true, rfl, iteT (q H (Same.refl _))⟩
      | none =>
        rw [hw] at q
        refine ⟨rfl, false, rfl, iteF ?_⟩
        refine ⟨_, rfl, _, rfl, a, L, p, rfl, hL, hn, fun kl H1 nkl s1 hkl => ?_⟩
        refine ⟨kl, rfl, ⟨_, sql hkl⟩, fun D hD => ?_⟩
        refine lc_rel (walk_list (xs := (kids L p).map fun (k : Nat) => V.int (k : Int))) hD (by rw [List.length_map]; have := kids_len L p; omega) (fun H' s => sql (s _ _ hkl)) (fun i => wanted L W ((kids L p).getD i 0)) (fun _ _ _ => True) (fun _ _ _ _ _ _ _ h => h) (fun i x H2 H3 l hi s2 hy y => ?_) (fun ys H2 s2 hy hp' => ?_)
        · obtain ⟨rfl, hx⟩ := y
          rw [List.getElem?_map] at hx
          obtain ⟨k, hk, rfl⟩ := Option.map_eq_some_iff.mp hx
          have hkk := kids_gt wf (List.mem_of_getElem? hk)
          have ek : (kids L p).getD i 0 = k := by rw [List.getD_eq_getElem?_getD, hk]; rfl
          refine ⟨Same.refl _, rfl, fun Q' q' => ?_, fun _ H4 _ Q' q' => ⟨_, rfl, q' _ H4 (Same.refl _) trivial⟩⟩
          rw [ek] at q'
          exact ⟨_, rfl, _, rfl, _, rfl, a, L, d, W, k, rfl, same_t (s1.trans s2) hL, same_t (s1.trans s2) hW, wf, hn, hl, hkk.2, by omega, fun H5 s5 => ⟨_, rfl, q' H5 s5⟩⟩
        · refine ⟨Nat.zero_le _, fun e0 ne0 => ?_⟩
          have s3 : Same H2 (upd H2 e0 (.lst [])) := same_new ne0
          refine ⟨D, e0, ys, rfl, rfl, sql (s3 _ _ hy), sql upd_same, ?_⟩
          have e5 : (!ys.isEmpty) = (false || (kids L p).any (wanted L W)) := by
            have h1 := Paired.length hp'
            rw [List.length_map] at h1
            have h2 : ys.isEmpty = ((List.range (kids L p).length).filter fun i => wanted L W ((kids L p).getD i 0)).isEmpty := by
              rw [Bool.eq_iff_iff, List.isEmpty_iff_length_eq_zero, List.isEmpty_iff_length_eq_zero, h1]
            rw [h2, filter_any, Bool.not_not, Bool.false_or]
          rw [e5]
          exact q _ (s1.trans (s2.trans s3))
theorem c__law_is_wanted (T : Txt K mg) : Cal P w K mg base CX0 32 "_law_is_wanted" ["land_here", "wants_here", "place_here"] (sp_law_is_wanted K 30) := c_is_wanted_up T 30
/-! ### _law_out -/
def sp_law_out (K : PySem.W.Frag) : Sp := fun vs H Q _ => ∃ b carts room need e, vs = [.ref b, .int need, .int ((e : Nat) : Int)] ∧ SqT K H b (worksV carts room) ∧ 2 ≤ room ∧ room ≤ 21 ∧ e ≤ 6 ∧ Q (oiV (outF room need e)) H
theorem outF_least {room e : Nat} {need o : Int} (hr : 3 ≤ room) (h1 : ((max e 1 : Nat) : Int) ≤ o) (h2 : need ≤ o * ((room : Int) - 2) + e) (h3 : o = ((max e 1 : Nat) : Int) ∨ (o - 1) * ((room : Int) - 2) + e < need) : outF room need e = some o := by
  have hp : (0 : Int) < (room : Int) - 2 := by omega
  have hm : ((max e 1 : Nat) : Int) * ((room : Int) - 2) ≤ o * ((room : Int) - 2) := Int.mul_le_mul_of_nonneg_right h1 (by omega)
  unfold outF
  rcases h3 with h3 | h3
  · rw [← h3, if_pos h2]
  · by_cases c : need ≤ ((max e 1 : Nat) : Int) * ((room : Int) - 2) + e
    · have : ¬ ((max e 1 : Nat) : Int) ≤ o - 1 := fun z => by
        have := Int.mul_le_mul_of_nonneg_right z (show (0 : Int) ≤ (room : Int) - 2 by omega)
        omega
      rw [if_pos c]
      congr 1
      omega
    · rw [if_neg c, if_neg (by omega)]
      congr 1
      have a1 : (-o) * ((room : Int) - 2) ≤ (e : Int) - need := by rw [Int.neg_mul]; omega
      have a2 : (e : Int) - need < (-o + 1) * ((room : Int) - 2) := by
        have : (-o + 1) * ((room : Int) - 2) = -((o - 1) * ((room : Int) - 2)) := by rw [← Int.neg_mul]; congr 1; omega
        omega
      have b1 := (Int.le_ediv_iff_mul_le hp).mpr a1
      have b2 := Int.ediv_lt_of_lt_mul hp a2
      omega
theorem c__law_out (T : Txt K mg) : Cal P w K mg base CX0 1 "_law_out" ["works_here", "need", "some"] (sp_law_out K) := by
  refine cal0 T.d__law_out sc__law_out (fun _ _ _ _ _ _ us hl => match us, hl with | [_, _, _], _ => rfl) (fun vs H Q E h => ?_) (fun f cdv A outer s H vs Q E hr h => ?_)
  · obtain ⟨b, carts, room, need, e, rfl, _⟩ := h
    rfl
  · obtain ⟨b, carts, room, need, e, rfl, hB, h2, h21, h6, q⟩ := h
    refine ⟨_, (pss_cons (ps_set (i := 3) sc__law_out.nd rfl (Or.inl rfl) (pe_callB (call_max2 rfl) rfl T.b_max (by decide +kernel) (pa_cons (pv 2) (pa_cons pe_int pa_nil))))
      (pss_cons (ps_if (pt_cmpR op_eq (pe_ix (ixT K) (pv 0) pe_int (fun _ _ => rfl)) pe_int (nomark _)) (pss_one (ps_ret (pe_ifExp (pt_cmpR op_ge (pv 2) (pv 1) (nomark _)) (pv 3) pe_non))) pss_nil)
      (pss_cons (ps_while PassesOwn.never (pt_cmpR op_lt (pe_op op_add (pe_op op_mul (pv 3) (pe_op op_sub (pe_ix (ixT K) (pv 0) pe_int (fun _ _ => rfl)) pe_int)) (pv 2)) (pv 1) (nomark _)) (pss_one (ps_set (i := 3) sc__law_out.nd rfl (Or.inl rfl) (pe_op op_add (pv 3) pe_int))))
      (pss_one (ps_ret (pv 3)))))), ?_⟩
    have em : (if (1 : Int) > (e : Int) then (1 : Int) else (e : Int)) = ((max e 1 : Nat) : Int) := by split <;> omega
    refine ⟨_, rfl, _, _, rfl, ?_⟩
    dsimp only [gName]
    rw [em]
    refine ⟨_, rfl, b, _, 1, _, rfl, rfl, hB, rfl, rfl, _, rfl, ite2 (fun c => ?_) (fun c => ?_)⟩
    · have c : room = 2 := by
        have := V.int.inj (of_decide_eq_true c)
        omega
      subst c
      refine ⟨_, rfl, _, rfl, _, _, rfl, rfl, _, rfl, ite2 (fun c => ?_) (fun c => ?_)⟩
      · have c := of_decide_eq_true c
        have eo : outF 2 need e = some ((max e 1 : Nat) : Int) := if_pos (by simp; omega)
        rw [eo] at q
        exact ⟨_, rfl, q⟩
      · have c := of_decide_eq_false (Bool.eq_false_iff.mpr c)
        have eo : outF 2 need e = none := by
          unfold outF
          rw [if_neg (by simp; omega), if_pos rfl]
        rw [eo] at q
        exact q
    · have c : 3 ≤ room := by
        have : room ≠ 2 := fun z => c (decide_eq_true (by rw [z]; rfl))
        omega
      have hp : (1 : Int) ≤ (room : Int) - 2 := by omega
      refine ⟨fun m σ H' => ∃ o : Int, σ = [some (.ref b), some (.int need), some (.int (e : Int)), some (.int o)] ∧ H' = H ∧ ((max e 1 : Nat) : Int) ≤ o ∧ m = (need - o * ((room : Int) - 2)).toNat ∧ (o = ((max e 1 : Nat) : Int) ∨ (o - 1) * ((room : Int) - 2) + e < need),
        ⟨_, _, rfl, rfl, Int.le_refl _, rfl, .inl rfl⟩, fun m σ H' W => ?_⟩
      obtain ⟨o, rfl, rfl, h1, hm, h3⟩ := W
      refine ⟨_, rfl, _, rfl, b, _, 1, _, rfl, rfl, hB, rfl, _, _, rfl, rfl, _, _, rfl, rfl, .inr ⟨by omega, by omega⟩, _, rfl, _, _, rfl, rfl, _, rfl, _, _, rfl, rfl, _, rfl, ite2 (fun c2 => ?_) (fun c2 => ?_)⟩
      · have c2 := of_decide_eq_true c2
        refine ⟨_, fun σ' H' z => z, _, rfl, _, _, rfl, rfl, ?_⟩
        have e1 : (o + 1) * ((room : Int) - 2) = o * ((room : Int) - 2) + ((room : Int) - 2) := by rw [Int.add_mul, Int.one_mul]
        refine ⟨(need - (o + 1) * ((room : Int) - 2)).toNat, by omega, o + 1, rfl, rfl, by omega, rfl, .inr ?_⟩
        rw [show o + 1 - 1 = o by omega]
        exact c2
      · have c2 := of_decide_eq_false (Bool.eq_false_iff.mpr c2)
        rw [outF_least c h1 (by omega) h3] at q
        exact ⟨_, rfl, q⟩
end
end Oa
namespace Oat
theorem range_getD {α : Type} (l : List α) (d : α) : (List.range l.length).map (fun i => l.getD i d) = l := by
  apply List.ext_getElem?
  intro i
  rw [List.getElem?_map]
  by_cases h : i < l.length
  · rw [List.getElem?_range h, List.getElem?_eq_getElem h]
    simp [h]
  · rw [List.getElem?_eq_none (by simpa using h), List.getElem?_eq_none (by omega)]
    rfl
theorem range_filter {α β : Type} (l : List α) (d : α) (g : α → Bool) (h : α → β) : ((List.range l.length).filter fun i => g (l.getD i d)).map (fun i => h (l.getD i d)) = (l.filter g).map h := by
  have e := congrArg (fun x => (List.filter g x).map h) (range_getD l d)
  rw [← e]
  simp only [List.filter_map, List.map_map]
  rfl
theorem foldl_addRow {left used : Nat} {u : Int × List Nat} : ∀ (tb : List (Nat × Int)) (acc : Fnd), (tb.filter fun e => decide (e.1 + used ≤ left)).foldl (addRow left used u) acc = tb.foldl (addRow left used u) acc
  | [], _ => rfl
  | e :: tb, acc => by
    by_cases c : e.1 + used ≤ left
    · rw [List.filter_cons_of_pos (by simpa using c), List.foldl_cons, List.foldl_cons, foldl_addRow tb]
    · rw [List.filter_cons_of_neg (by simpa using c), List.foldl_cons, foldl_addRow tb]
      congr 1
      unfold addRow
      rw [if_neg (by omega)]
theorem dput_self {α : Type} : ∀ {F : List (Nat × α)} {k : Nat} {a : α}, dget F k = some a → dput F k a = F
  | (j, u) :: r, k, a, h => by
    simp only [dget] at h
    simp only [dput]
    split at h
    · rename_i e
      rw [if_pos e, Option.some.inj h]
    · rename_i e
      rw [if_neg e, dput_self h]
end Oat
namespace Oa
open PySem PySem.Spec PyProof.Rows L2 Oat
section
variable {P : Program} {w : World} {K : PySem.W.Frag} {mg : Str → Option Value} {base : Heap}
def sp_law_best (K : PySem.W.Frag) : Sp := fun vs H Q _ => ∃ t xs ts left, vs = [.ref t, .int ((left : Nat) : Int)] ∧ SqL K H t xs ∧ Paired (TakAt K H) xs ts ∧ (∀ tb ∈ ts, (tb.map (·.1)).Nodup ∧ tb.length ≤ 1000) ∧ ts.length ≤ 30 ∧ left ≤ 6 ∧
  ∀ v H', Same H H' → bestV K H' (best ts left) v → Q v H'
theorem c__law_best (T : Txt K mg) : Cal P w K mg base CX0 1 "_law_best" ["rows", "some"] (sp_law_best K) := by
  refine cal0 T.d__law_best sc__law_best (fun _ _ _ _ _ _ us hl => match us, hl with | [_, _], _ => rfl) (fun vs H Q E h => ?_) (fun f cdv A outer s H vs Q E hr h => ?_)
  · obtain ⟨t, xs, ts, left, rfl, _⟩ := h
    rfl
  · obtain ⟨t, xs, ts, left, rfl, hS, hT, nds, h30, h6, q⟩ := h
    refine ⟨_, (pss_cons (ps_set (i := 2) sc__law_best.nd rfl (Or.inr rfl) (pe_disp (pps_cons pe_int (pe_tup (pa_cons pe_int (pa_cons (pe_tup pa_nil) pa_nil))) pps_nil) rfl rfl (fun z => by cases z) (by decide)))
      (pss_cons (ps_for PassesOwn.never rfl (piL K (pv 0)) (pg_name (i := 3) sc__law_best.nd rfl (Or.inl rfl)) (pss_cons (ps_set (i := 4) sc__law_best.nd rfl (Or.inl rfl) pe_dnewK)
      (pss_cons (ps_lock (ps_for PassesOwn.never rfl (pi_keys (pv 2)) (pg_name (i := 5) sc__law_best.nd rfl (Or.inr rfl)) (pss_one (ps_for PassesOwn.never rfl (piL K (pe_lock (pe_lc (own := [("k", 8)]) (g := gName 8) rfl sc__law_best.nd (pi_keys (pv 3)) (blkOk_by (own := [("k", 8)]) (N := ["rows", "some", "found", "table", "fresh", "used", "own", "row", "k"]) (sc := (defScope s__law_best)) (by decide +kernel)) (fun _ _ _ _ _ => pg_name (i := 8) sc__law_best.nd rfl (Or.inl rfl)) (fun _ _ _ _ _ => pts_one (pt_cmpR op_le (pe_op op_add (pv 8) (pv 5)) (pv 1) (nomark _))) (fun _ _ _ _ _ => (pv 8))))) (pg_name (i := 6) sc__law_best.nd rfl (Or.inl rfl)) (pss_cons (ps_set (i := 7) sc__law_best.nd rfl (Or.inl rfl) (pe_tup (pa_cons (pe_op op_add (pe_ix (ixT K) (pe_dget (hu_of hr) (pv 2) (pv 5) (fun _ _ => rfl)) pe_int (fun _ _ => rfl)) (pe_ix (ixT K) (pe_dget (hu_of hr) (pv 3) (pv 6) (fun _ _ => rfl)) pe_int (fun _ _ => rfl))) (pa_cons (pe_op (catA K) (pe_ix (ixT K) (pe_dget (hu_of hr) (pv 2) (pv 5) (fun _ _ => rfl)) pe_int (fun _ _ => rfl)) (pe_tup (pa_cons (pv 6) pa_nil))) pa_nil))))
      (pss_one (ps_if (PW.pt (pw_or (pt_cmp (pc_dnotin (hu_of hr) (pe_op op_add (pv 5) (pv 6)) (pv 4))) (pw_or1 (pt_cmpR (op_ltR K hr.units) (pv 7) (pe_dget (hu_of hr) (pv 4) (pe_op op_add (pv 5) (pv 6)) (fun _ _ => rfl)) (nomark _))))) (pss_one (ps_dput (hu_of hr) (pv 4) (pe_op op_add (pv 5) (pv 6)) (pv 7) rfl)) pss_nil)))))))
      (pss_one (ps_set (i := 2) sc__law_best.nd rfl (Or.inr rfl) (pv 4))))))
      (pss_one (ps_ret (pe_ifExp (pt_cmpR (op_eqE hr.units0) (pv 2) pe_dnewK (nomark _)) pe_non (pe_callB (minLR K rfl hr.units) rfl T.b_min (by decide +kernel) (pa_cons (pe_lock (pe_lc (own := [("k", 8)]) (g := gName 8) rfl sc__law_best.nd (pi_keys (pv 2)) (blkOk_by (own := [("k", 8)]) (N := ["rows", "some", "found", "table", "fresh", "used", "own", "row", "k"]) (sc := (defScope s__law_best)) (by decide +kernel)) (fun _ _ _ _ _ => pg_name (i := 8) sc__law_best.nd rfl (Or.inl rfl)) (fun _ _ _ _ _ => pts_nil) (fun _ _ _ _ _ => (pe_dget (hu_of hr) (pv 2) (pv 8) (fun _ _ => rfl))))) pa_nil))))))), ?_⟩
    -- found = {0: (0, ())}
    refine fun fa nfa => ?_
    refine ⟨Nat.zero_le _, fun e0 ne0 => ⟨(by show 2 ≤ sizeLine; decide), fun r0 nr0 => ?_⟩⟩
    have n1 : fa ≠ e0 := ne_of_none upd_same ne0
    have n2 : fa ≠ r0 := ne_of_none (show (upd (upd H fa (.dK [])) e0 (.tup [])) fa = some (.dK []) by rw [upd_ne n1, upd_same]) nr0
    have n3 : e0 ≠ r0 := ne_of_none upd_same nr0
    refine ⟨by rw [upd_ne n2, upd_ne n1, upd_same], [(.inl 0, .ref r0)], rfl, (by show 1 ≤ 15; decide), ?_⟩
    have s0 : Same H (upd (upd (upd (upd H fa (.dK [])) e0 (.tup [])) r0 (.tup [.int 0, .ref e0])) fa (.dK (mergeK [] [(.inl 0, .ref r0)]))) := by
      refine same_mut (((same_new nfa).trans (same_new ne0)).trans (same_new nr0)) nfa
    have f0 : (upd (upd (upd (upd H fa (.dK [])) e0 (.tup [])) r0 (.tup [.int 0, .ref e0])) fa (.dK (mergeK [] [(.inl 0, .ref r0)]))) fa = some (.dK [(.inl 0, .ref r0)]) := upd_same
    have g1 : (upd (upd (upd (upd H fa (.dK [])) e0 (.tup [])) r0 (.tup [.int 0, .ref e0])) fa (.dK (mergeK [] [(.inl 0, .ref r0)]))) r0 = some (.tup [.int 0, .ref e0]) := by rw [upd_ne n2.symm, upd_same]
    have g2 : (upd (upd (upd (upd H fa (.dK [])) e0 (.tup [])) r0 (.tup [.int 0, .ref e0])) fa (.dK (mergeK [] [(.inl 0, .ref r0)]))) e0 = some (.tup []) := by rw [upd_ne n1.symm, upd_ne n3, upd_same]
    revert s0 f0 g1 g2
    generalize (upd (upd (upd (upd H fa (.dK [])) e0 (.tup [])) r0 (.tup [.int 0, .ref e0])) fa (.dK (mergeK [] [(.inl 0, .ref r0)]))) = H1
    intro s0 f0 g1 g2
    have r0' : RowAt K H1 (.ref r0) (0, []) := ⟨r0, e0, rfl, sqt g1, sqt g2⟩
    -- for table in rows
    refine ⟨_, rfl, t, rfl, ⟨_, same_l s0 hS⟩, ?_⟩
    refine for_it (walk_list (xs := xs)) (fun i σ H2 => ∃ fa kvs y3 y4 y5 y6 y7 y8, σ = [some (.ref t), some (.int ((left : Nat) : Int)), some (.ref fa), y3, y4, y5, y6, y7, y8] ∧ Same H H2 ∧ H fa = none ∧ H2 fa = some (.dK kvs) ∧ PairD (RowAt K H2) kvs (bestF (ts.take i) left))
      ⟨fa, _, none, none, none, none, none, none, rfl, s0, nfa, f0, .cons ⟨rfl, r0'⟩ .nil⟩ (fun i σ H2 _ p => ?_) (fun i x σ H2 H3 hi p y => ?_) (fun σ H2 p => ?_)
    · obtain ⟨_, _, _, _, _, _, _, _, _, s1, _⟩ := p
      exact same_l s1 hS
    · obtain ⟨fa, kvs, y3, y4, y5, y6, y7, y8, rfl, s1, nfa, f1, pd⟩ := p
      obtain ⟨rfl, hx⟩ := y
      obtain ⟨tb, htb, tk⟩ := paired_at hT hx
      obtain ⟨d, ktb, rfl, hd, pt⟩ := tk
      have ndt := (nds tb (List.mem_of_getElem? htb)).1
      have ndl := (nds tb (List.mem_of_getElem? htb)).2
      have gF := good_bestF (ts.take i) left
      have lF : (ts.take i).length ≤ 30 := by rw [List.length_take]; omega
      generalize hFe : bestF (ts.take i) left = F at pd gF
      -- fresh = {}
      refine fun fr nfr => ?_
      have nfd : fa ≠ d := fun e => by rw [e, hd] at nfa; cases nfa
      have nrd : fr ≠ d := fun e => by rw [e, s1 _ _ hd] at nfr; cases nfr
      have nfr2 : fa ≠ fr := ne_of_none f1 nfr
      have nfrH : H fr = none := s1.free nfr
      -- for used in found
      refine ⟨fa, .dK kvs, by rw [upd_ne nfr2]; exact f1, trivial, fun od => ?_⟩
      refine ⟨_, rfl, fa, od, rfl, .inl ⟨kvs, upd_same, ?_⟩⟩
      refine for_it walk_keys (fun j σ H4 => ∃ kfr y5 y6 y7 y8, σ = [some (.ref t), some (.int ((left : Nat) : Int)), some (.ref fa), some (.ref d), some (.ref fr), y5, y6, y7, y8] ∧ Same H H4 ∧ H4 fa = some (.frz od (.dK kvs)) ∧ H4 fr = some (.dK kfr) ∧
          PairD (RowAt K H4) kvs F ∧ PairD (RowAt K H4) kfr ((F.take j).foldl (fun acc e => tb.foldl (addRow left e.1 e.2) acc) []))
        ⟨[], y5, y6, y7, y8, rfl, same_mut (same_mut s1 nfrH) nfa, upd_same, by rw [upd_ne nfr2.symm, upd_same], pd_imp pd fun _ _ z => z.tx ((same_tx (same_new nfr)).trans (tx_upd (by rw [upd_ne nfr2, f1]; trivial))), .nil⟩
        (fun j σ H4 _ p => ?_) (fun j x σ H4 H5 hj p y => ?_) (fun σ H4 p => ?_)
      · obtain ⟨_, _, _, _, _, _, _, z, _⟩ := p
        exact z
      · obtain ⟨kfr, y5, y6, y7, y8, rfl, s2, f2, r2, pdF, pdR⟩ := p
        obtain ⟨rfl, k, v, hk, rfl⟩ := y
        obtain ⟨used, u, hu, rfl, ru⟩ := pd_at pdF hk
        have lu : u.2.length = (ts.take i).length := (gF.2 _ (List.mem_of_getElem? hu)).2
        have gR : Good left ((ts.take i).length + 1) ((F.take j).foldl (fun acc e => tb.foldl (addRow left e.1 e.2) acc) []) :=
          good_mid _ _ (fun e he => (gF.2 e (List.mem_of_mem_take he)).2) (good_nil _ _)
        have du : dget F used = some u := dget_at gF.1 hu
        rw [foldl_take hu]
        generalize ((F.take j).foldl (fun acc e => tb.foldl (addRow left e.1 e.2) acc) []) = acc0 at pdR gR
        -- [k for k in table if k + used <= some]
        refine ⟨d, .dK ktb, s2 _ _ hd, trivial, fun od2 => ?_⟩
        have hd5 : H5 d = some (.dK ktb) := s2 _ _ hd
        have pt5 : PairD (HeadAt K H5) ktb tb := pd_imp pt fun _ _ z => z.tx (same_tx s2)
        refine ⟨_, rfl, d, od2, rfl, .inl ⟨ktb, upd_same, fun D hD => ?_⟩⟩
        have hl1000 : ktb.length ≤ 1000 := by rw [pd_len pt5]; exact ndl
        refine lc_rel walk_keys hD hl1000 (fun H' s => s _ _ upd_same) (fun i => (fun e : Nat × Int => decide (e.1 + used ≤ left)) (tb.getD i (0, 0))) (fun i v _ => v = .int (((tb.getD i (0, 0)).1 : Nat) : Int)) (fun _ _ _ _ _ _ _ h => h)
          (fun m x H6 H7 l hm s6 hy y => ?_) (fun ys H6 s6 hy hp => ?_)
        · obtain ⟨rfl, k, v, hk2, rfl⟩ := y
          obtain ⟨own, tv, hs, rfl, rv⟩ := pd_at pt5 hk2
          have eg : tb.getD m (0, 0) = (own, tv) := by rw [List.getD_eq_getElem?_getD, hs]; rfl
          refine ⟨Same.refl _, rfl, fun Q' q' => ?_, fun _ H8 _ Q' q' => ⟨_, rfl, q' _ H8 (Same.refl _) (by rw [eg]; rfl)⟩⟩
          rw [eg] at q'
          refine ⟨_, rfl, _, rfl, _, _, rfl, rfl, _, rfl, _, _, rfl, rfl, _, rfl, ?_⟩
          have e2 : decide (((own : Nat) : Int) + ((used : Nat) : Int) ≤ ((left : Nat) : Int)) = decide (own + used ≤ left) := decide_eq_decide.mpr (by omega)
          rw [e2]
          exact q' _ (Same.refl _)
        · have hfz : H6 d = some (.frz od2 (.dK ktb)) := s6 _ _ upd_same
          refine ⟨hfz, ?_⟩
          have hDd : D ≠ d := fun e => by rw [e, upd_same] at hD; cases hD
          have s7 : Same H5 (upd H6 d (.dK ktb)) := lock_same hd5 s6
          have hy7 : (upd H6 d (.dK ktb)) D = some (.lst ys) := by rw [upd_ne hDd]; exact hy
          have eys : ys = (tb.filter fun e => decide (e.1 + used ≤ left)).map fun e => V.int ((e.1 : Nat) : Int) := by
            have h1 := paired_vals (g := fun i => V.int (((tb.getD i (0, 0)).1 : Nat) : Int)) (fun _ _ h => h) hp
            rw [pd_len pt5] at h1
            rw [h1]
            exact range_filter tb (0, 0) (fun e => decide (e.1 + used ≤ left)) (fun e => V.int ((e.1 : Nat) : Int))
          rw [eys] at hy7
          have nDH5 : H5 D = none := by
            rw [upd_ne hDd] at hD
            exact hD
          have nDfr : D ≠ fr := fun e => by rw [e, r2] at nDH5; cases nDH5
          have hsub : ∀ e ∈ (tb.filter fun e => decide (e.1 + used ≤ left)), e ∈ tb ∧ e.1 + used ≤ left := fun e he => by
            have := List.mem_filter.mp he
            exact ⟨this.1, of_decide_eq_true this.2⟩
          rw [← foldl_addRow]
          generalize (tb.filter fun e => decide (e.1 + used ≤ left)) = tf at hy7 hsub
          generalize (upd H6 d (.dK ktb)) = H8 at s7 hy7
          refine ⟨D, rfl, ⟨_, sql hy7⟩, ?_⟩
          refine for_it (walk_list (xs := tf.map fun e => V.int ((e.1 : Nat) : Int))) (fun m σ H9 => ∃ kfr y6 y7 y8, σ = [some (.ref t), some (.int ((left : Nat) : Int)), some (.ref fa), some (.ref d), some (.ref fr), some (.int ((used : Nat) : Int)), y6, y7, y8] ∧ Same H H9 ∧ H9 D = some (.lst (tf.map fun e => V.int ((e.1 : Nat) : Int))) ∧ H9 fa = some (.frz od (.dK kvs)) ∧
              H9 fr = some (.dK kfr) ∧ PairD (RowAt K H9) kvs F ∧ PairD (RowAt K H9) kfr ((tf.take m).foldl (addRow left used u) acc0))
            ⟨kfr, _, _, _, rfl, s2.trans s7, hy7, s7 _ _ f2, s7 _ _ r2, pd_imp pdF fun _ _ z => z.tx (same_tx s7), pd_imp pdR fun _ _ z => z.tx (same_tx s7)⟩ (fun m σ H9 _ p => ?_) (fun m x σ H9 H10 hm p y => ?_) (fun σ H9 p => ?_)
          · obtain ⟨_, _, _, _, _, _, z, _⟩ := p
            exact sql z
          · obtain ⟨kfr, y6, y7, y8, rfl, s3, hD3, f4, r3, pF, pR⟩ := p
            obtain ⟨rfl, hx⟩ := y
            rw [List.getElem?_map] at hx
            obtain ⟨e, he, rfl⟩ := Option.map_eq_some_iff.mp hx
            obtain ⟨own, tv⟩ := e
            obtain ⟨hmem, hle⟩ := hsub _ (List.mem_of_getElem? he)
            have hle : own + used ≤ left := hle
            obtain ⟨ii, hii⟩ := List.getElem?_of_mem hmem
            have ds : dget tb own = some tv := dget_at ndt hii
            have gR2 : Good left ((ts.take i).length + 1) ((tf.take m).foldl (addRow left used u) acc0) := good_inner lu _ _ gR
            rw [foldl_take he]
            generalize ((tf.take m).foldl (addRow left used u) acc0) = acc at pR gR2
            have lacc : acc.length ≤ left + 1 := gR2.len
            have ek : ((used : Nat) : Int) + ((own : Nat) : Int) = ((used + own : Nat) : Int) := by omega
            have hd10 : H10 d = some (.dK ktb) := s3 _ _ hd
            have pT : PairD (HeadAt K H10) ktb tb := pd_imp pt fun _ _ z => z.tx (same_tx s3)
            obtain ⟨v1, hv1, p1, q1, rfl, t1, t2⟩ := (pd_get used pF).2 u du
            obtain ⟨v2, hv2, p2, xs2, rfl, t3⟩ := (pd_get own pT).2 tv ds
            -- row = (..)
            refine ⟨_, rfl, _, rfl, fa, _, rfl, .inl ⟨kvs, .inl _, .inr ⟨od, f4⟩, rfl, hv1.symm⟩, p1, _, 0, _, rfl, rfl, t1, rfl, ?_⟩
            refine ⟨_, rfl, _, rfl, d, _, rfl, .inl ⟨ktb, .inl _, .inl hd10, rfl, hv2.symm⟩, p2, _, 0, _, rfl, rfl, t3, atI_nat (j := 0) rfl, _, _, rfl, rfl, ?_⟩
            refine ⟨_, rfl, _, rfl, fa, _, rfl, .inl ⟨kvs, .inl _, .inr ⟨od, f4⟩, rfl, hv1.symm⟩, p1, _, 1, _, rfl, rfl, t1, rfl, ?_⟩
            refine ⟨_, rfl, (by show 1 ≤ sizeLine; decide), fun w1 nw1 => ?_⟩
            have sw : Same H10 (upd H10 w1 (.tup [.int ((own : Nat) : Int)])) := same_new nw1
            refine ⟨q1, w1, _, _, rfl, rfl, same_t sw t2, sqt upd_same, ?_, fun e => ⟨(by show 2 ≤ sizeLine; decide), fun w3 nw3 => ?a⟩, fun _ z => (List.cons_ne_nil _ _ z).elim, fun ne _ p np => ⟨(by show 2 ≤ sizeLine; decide), fun w3 nw3 => ?b⟩⟩
            · rw [List.length_map, lu]
              exact Nat.le_trans (show (ts.take i).length + 1 ≤ 1000 by omega) (Nat.le_of_lt (small1000 (Nat.le_refl _)))
            case' a =>
              have t8 : SqT K (upd H10 w1 (.tup [.int ((own : Nat) : Int)])) w1 ((u.2 ++ [own]).map fun (n : Nat) => V.int (n : Int)) := by
                refine sqt ?_
                rw [upd_same]
                have : u.2 = [] := by simpa using e
                rw [this]
                rfl
              have s8 := sw
              generalize hH8 : (upd H10 w1 (.tup [.int ((own : Nat) : Int)])) = H11 at t8 s8 nw3 ⊢
              generalize hw2 : w1 = w2 at t8 ⊢
            case' b =>
              have t8 : SqT K (upd (upd H10 w1 (.tup [.int ((own : Nat) : Int)])) p (.tup ((u.2.map fun (n : Nat) => V.int (n : Int)) ++ [.int ((own : Nat) : Int)]))) p ((u.2 ++ [own]).map fun (n : Nat) => V.int (n : Int)) := by
                refine sqt ?_
                rw [upd_same, List.map_append]
                rfl
              have s8 := sw.trans (same_new (o := .tup ((u.2.map fun (n : Nat) => V.int (n : Int)) ++ [.int ((own : Nat) : Int)])) np)
              generalize hH8 : (upd (upd H10 w1 (.tup [.int ((own : Nat) : Int)])) p (.tup ((u.2.map fun (n : Nat) => V.int (n : Int)) ++ [.int ((own : Nat) : Int)]))) = H11 at t8 s8 nw3 ⊢
              generalize hw2 : p = w2 at t8 ⊢
            all_goals
              have s9 : Same H10 (upd H11 w3 (.tup [.int (u.1 + tv), .ref w2])) := s8.trans (same_new nw3)
              have rw' : RowAt K (upd H11 w3 (.tup [.int (u.1 + tv), .ref w2])) (.ref w3) (u.1 + tv, u.2 ++ [own]) := ⟨w3, w2, rfl, sqt upd_same, same_t (same_new nw3) t8⟩
              dsimp only [gName]
              generalize (upd H11 w3 (.tup [.int (u.1 + tv), .ref w2])) = H12 at s9 rw' ⊢
              have r9 : H12 fr = some (.dK kfr) := s9 _ _ r3
              have pR9 : PairD (RowAt K H12) kfr acc := pd_imp pR fun _ _ z => z.tx (same_tx s9)
              have gg := pd_get (used + own) pR9
              have s39 := s3.trans s9
              have x9 : TExt H12 (upd H12 fr (.dK (putK kfr (.inl ((used + own : Nat) : Int)) (.ref w3)))) := tx_upd (by rw [r9]; trivial)
              have hkl : kfr.length < sizeLine := Nat.lt_of_le_of_lt (show kfr.length ≤ 1000 by rw [pd_len pR9]; omega) (small1000 (Nat.le_refl _))
              have ea : addRow left used u acc (own, tv) = dput acc (used + own) (rmin ((dget acc (used + own)).getD (u.1 + tv, u.2 ++ [own])) (u.1 + tv, u.2 ++ [own])) := by
                unfold addRow
                rw [if_pos (by show used + own ≤ left; omega)]
              rw [ea]
              have pF12 := fun (H13 : Hp) (x : TExt H12 H13) => pd_imp pF fun _ _ z => z.tx ((same_tx s9).trans x)
              refine ⟨_, rfl, _, rfl, _, _, rfl, rfl, _, rfl, fr, valV kfr (.inl ((used + own : Nat) : Int)), rfl, .inl ⟨kfr, .inl ((used + own : Nat) : Int), .inl r9, congrArg V.int ek, rfl⟩, _, rfl, ?_⟩
              cases hg : dget acc (used + own) with
              | none =>
                rw [gg.1 hg]
                refine iteT ?_
                refine ⟨_, rfl, _, rfl, _, rfl, _, rfl, _, _, rfl, rfl, fr, _, rfl, .inl ⟨kfr, .inl ((used + own : Nat) : Int), r9, congrArg V.int ek, hkl, rfl⟩, ?_⟩
                refine ⟨_, _, _, _, rfl, same_mut s39 nfrH, by rw [upd_ne nDfr]; exact s9 _ _ hD3, by rw [upd_ne nfr2]; exact s9 _ _ f4, upd_same, pF12 _ x9, ?_⟩
                have er : rmin (u.1 + tv, u.2 ++ [own]) (u.1 + tv, u.2 ++ [own]) = (u.1 + tv, u.2 ++ [own]) := by unfold rmin; split <;> rfl
                show PairD _ _ (dput acc (used + own) (rmin (u.1 + tv, u.2 ++ [own]) (u.1 + tv, u.2 ++ [own])))
                rw [er]
                exact pd_put gR2.1 (pd_imp pR9 fun _ _ z => z.tx x9) (rw'.tx x9)
              | some old =>
                obtain ⟨v3, hv3, ro⟩ := gg.2 old hg
                rw [hv3]
                refine iteF ?_
                refine ⟨_, rfl, _, rfl, _, rfl, _, rfl, _, _, rfl, rfl, fr, v3, rfl, .inl ⟨kfr, .inl ((used + own : Nat) : Int), .inl r9, congrArg V.int ek, hv3.symm⟩, (u.1 + tv, u.2 ++ [own]), old, rw'.dp, ro.dp, _, rfl, ite2 (fun c => ?_) (fun c => ?_)⟩
                · refine ⟨_, rfl, _, rfl, _, rfl, _, rfl, _, _, rfl, rfl, fr, _, rfl, .inl ⟨kfr, .inl ((used + own : Nat) : Int), r9, congrArg V.int ek, hkl, rfl⟩, ?_⟩
                  refine ⟨_, _, _, _, rfl, same_mut s39 nfrH, by rw [upd_ne nDfr]; exact s9 _ _ hD3, by rw [upd_ne nfr2]; exact s9 _ _ f4, upd_same, pF12 _ x9, ?_⟩
                  have er : rmin old (u.1 + tv, u.2 ++ [own]) = (u.1 + tv, u.2 ++ [own]) := if_pos c
                  show PairD _ _ (dput acc (used + own) (rmin old (u.1 + tv, u.2 ++ [own])))
                  rw [er]
                  exact pd_put gR2.1 (pd_imp pR9 fun _ _ z => z.tx x9) (rw'.tx x9)
                · refine ⟨_, _, _, _, rfl, s39, s9 _ _ hD3, s9 _ _ f4, r9, pF12 _ (same_tx (Same.refl _)), ?_⟩
                  have er : rmin old (u.1 + tv, u.2 ++ [own]) = old := if_neg c
                  show PairD _ _ (dput acc (used + own) (rmin old (u.1 + tv, u.2 ++ [own])))
                  rw [er, dput_self hg]
                  exact pR9
          · obtain ⟨kfr, y6, y7, y8, rfl, s3, hD3, f4, r3, pF, pR⟩ := p
            rw [List.length_map, List.take_length] at pR
            exact ⟨kfr, _, y6, y7, y8, rfl, s3, f4, r3, pF, pR⟩
      · obtain ⟨kfr, y5, y6, y7, y8, rfl, s2, f2, r2, pdF, pdR⟩ := p
        refine ⟨f2, ?_⟩
        have hlen : kvs.length = F.length := pd_len pdF
        rw [hlen, List.take_length] at pdR
        have x4 : TExt H4 (upd H4 fa (.dK kvs)) := tx_upd (by rw [f2]; trivial)
        refine ⟨_, rfl, ?_⟩
        refine ⟨fr, kfr, _, _, _, _, _, _, rfl, same_mut s2 nfa, nfrH, by rw [upd_ne nfr2.symm]; exact r2, ?_⟩
        rw [bestF_take htb, hFe]
        exact pd_imp pdR fun _ _ z => z.tx x4
    · obtain ⟨fa, kvs, y3, y4, y5, y6, y7, y8, rfl, s1, nfa, f1, pd⟩ := p
      have ex : xs.length = ts.length := Paired.length hT
      rw [ex, List.take_length] at pd
      have gF := good_bestF ts left
      -- found == {}
      refine ⟨_, rfl, fun e0 ne0 => ?_⟩
      have s2 : Same H2 (upd H2 e0 (.dK [])) := same_new ne0
      refine ⟨fa, e0, kvs, rfl, rfl, s2 _ _ f1, upd_same, _, rfl, ?_⟩
      cases hF : bestF ts left with
      | nil =>
        rw [hF] at pd
        cases pd
        refine iteT (q _ _ (s1.trans s2) ?_)
        rw [best_none.mpr hF]
        rfl
      | cons e F =>
        have hk : kvs ≠ [] := fun z => by
          rw [z, hF] at pd
          cases pd
        have hk2 : kvs.isEmpty = false := by
          cases kvs with
          | nil => exact absurd rfl hk
          | cons _ _ => rfl
        rw [hk2]
        refine iteF ?_
        have f2 := s2 _ _ f1
        have pd2 : PairD (RowAt K (upd H2 e0 (.dK []))) kvs (bestF ts left) := pd_imp pd fun _ _ z => z.tx (same_tx s2)
        have s3 := s1.trans s2
        generalize (upd H2 e0 (.dK [])) = H3 at f2 pd2 s3
        refine ⟨fa, .dK kvs, f2, trivial, fun od => ?_⟩
        have x3 : TExt H3 (upd H3 fa (.frz od (.dK kvs))) := tx_upd (by rw [f2]; trivial)
        refine ⟨_, rfl, fa, od, rfl, .inl ⟨kvs, upd_same, fun D hD => ?_⟩⟩
        refine lc_rel walk_keys hD (by rw [pd_len pd2]; have := gF.len; omega) (fun H' s => s _ _ upd_same) (fun i => true) (fun i v H' => ∃ e, ((bestF ts left).map (·.2))[i]? = some e ∧ RowAt K H' v e)
          (fun i v H4 H5 l hl sb r => ?_) (fun i x H4 H5 l hi s4 hy y => ?_) (fun ys H4 s4 hy hp => ?_)
        · obtain ⟨e, he, r⟩ := r
          refine ⟨e, he, r.tx fun a xs z => ?_⟩
          have hne : a ≠ D := by
            rintro rfl
            rcases z with z | ⟨ob, z⟩
            · rw [hl] at z
              cases z
            · rw [hl] at z
              cases z
          rcases z with z | ⟨ob, z⟩
          · exact .inl (sb _ _ hne z)
          · exact .inr ⟨ob, sb _ _ hne z⟩
        · obtain ⟨rfl, k, v, hk, rfl⟩ := y
          obtain ⟨n, e, he, rfl, re⟩ := pd_at pd2 hk
          have dg : dget (bestF ts left) n = some e := dget_at gF.1 he
          obtain ⟨v1, hv1, r1⟩ := (pd_get n pd2).2 e dg
          refine ⟨Same.refl _, rfl, fun Q' q' => q' H5 (Same.refl _), fun _ H6 s6 Q' q' => ?_⟩
          refine ⟨_, rfl, _, rfl, fa, v1, rfl, .inl ⟨kvs, .inl _, .inr ⟨od, (s4.trans s6) _ _ upd_same⟩, rfl, hv1.symm⟩, ?_⟩
          exact q' v1 H6 (Same.refl _) ⟨_, by rw [List.getElem?_map, he]; rfl, r1.tx (x3.trans ((same_tx s4).trans (same_tx s6)))⟩
        · refine ⟨s4 _ _ upd_same, ?_⟩
          have hfz : H4 fa = some (.frz od (.dK kvs)) := s4 _ _ upd_same
          have x4 : TExt H4 (upd H4 fa (.dK kvs)) := tx_upd (by rw [hfz]; trivial)
          have hDf : D ≠ fa := fun e => by rw [e, upd_same] at hD; cases hD
          have hpr : Paired (fun v e => Dp K (upd H4 fa (.dK kvs)) v (rowD e)) ys ((bestF ts left).map (·.2)) := by
            have h0 : (List.range kvs.length).filter (fun _ => true) = List.range ((bestF ts left).map (·.2)).length := by rw [List.length_map, ← pd_len pd2]; simp
            rw [h0] at hp
            exact paired_imp (turns_items (Rr := fun v e => RowAt K H4 v e) hp) fun v e r => (r.tx x4).dp
          rw [hF, List.map_cons] at hpr
          refine ⟨D, ys, e.2, _, rfl, sql (by rw [upd_ne hDf]; exact hy), hpr, fun v hv => ?_⟩
          refine q v _ (s3.trans (lock_same f2 s4)) ?_
          have eb : best ts left = some ((F.map (·.2)).foldl rmin e.2) := by
            unfold best
            rw [hF, List.foldl_map]
          rw [eb]
          exact rowAt_dp hv
end
end Oa
namespace Oa
open PySem PySem.Spec PyProof.Rows L2 Oat
section
variable {P : Program} {w : World} {K : PySem.W.Frag} {mg : Str → Option Value} {base : Heap}
/-! ### _law_table -/
def LRowAt (K : PySem.W.Frag) (H : Hp) (v : V) (r : TRow) : Prop := ∃ p q, v = .ref p ∧ SqT K H p [.int r.tk, .int r.out, .ref q] ∧ SqT K H q (r.part.map fun (n : Nat) => V.int (n : Int))
theorem LRowAt.tx {H H' : Hp} {v : V} {r : TRow} (h : LRowAt K H v r) (x : TExt H H') : LRowAt K H' v r := by
  obtain ⟨p, q, e, h1, h2⟩ := h
  exact ⟨p, q, e, x.t h1, x.t h2⟩
theorem LRowAt.head {H : Hp} {v : V} {r : TRow} (h : LRowAt K H v r) : HeadAt K H v r.tk := by
  obtain ⟨p, q, e, h1, _⟩ := h
  exact ⟨p, _, e, h1⟩
def LTabAt (K : PySem.W.Frag) (H : Hp) (v : V) (t : Tab) : Prop := ∃ d kvs, v = .ref d ∧ H d = some (.dK kvs) ∧ PairD (LRowAt K H) kvs t
theorem LTabAt.same {H H' : Hp} {v : V} {t : Tab} (h : LTabAt K H v t) (s : Same H H') : LTabAt K H' v t := by
  obtain ⟨d, kvs, e, hd, hp⟩ := h
  exact ⟨d, kvs, e, s _ _ hd, pd_imp hp fun _ _ q => q.tx (same_tx s)⟩
theorem tx_sb {H H' : Hp} {D : Addr} {l : List V} (hl : H D = some (.lst l)) (sb : SameBut D H H') : TExt H H' := fun a xs z => by
  have hne : a ≠ D := by
    rintro rfl
    rcases z with z | ⟨ob, z⟩
    · rw [hl] at z
      cases z
    · rw [hl] at z
      cases z
  rcases z with z | ⟨ob, z⟩
  · exact .inl (sb _ _ hne z)
  · exact .inr ⟨ob, sb _ _ hne z⟩
theorem LTabAt.sb {H H' : Hp} {D : Addr} {l : List V} {v : V} {t : Tab} (h : LTabAt K H v t) (hl : H D = some (.lst l)) (sb : SameBut D H H') : LTabAt K H' v t := by
  obtain ⟨d, kvs, e, hd, hp⟩ := h
  exact ⟨d, kvs, e, sb _ _ (ne_of hd hl (fun z => nomatch z)) hd, pd_imp hp fun _ _ q => q.tx (tx_sb hl sb)⟩
theorem pd_lheads {H : Hp} : ∀ {kvs : List (Key × V)} {t : Tab}, PairD (LRowAt K H) kvs t → PairD (HeadAt K H) kvs (takes t)
  | _, _, .nil => .nil
  | _, _, .cons a b => .cons ⟨a.1, a.2.head⟩ (pd_lheads b)
theorem LTabAt.tak {H : Hp} {v : V} {t : Tab} (h : LTabAt K H v t) : TakAt K H v (takes t) := by
  obtain ⟨d, kvs, e, hd, hp⟩ := h
  exact ⟨d, kvs, e, hd, pd_lheads hp⟩
def sp_law_table (K : PySem.W.Frag) (m : Nat) : Sp := fun vs H Q _ => ∃ a b d c carts p, vs = [.ref a, .ref b, .ref d, .int ((p : Nat) : Int), .int ((c.left : Nat) : Int)] ∧ CaseAt K H a b d c carts ∧ p ≤ c.L.length ∧ c.L.length < m + p ∧
  ∀ v H', Same H H' → LTabAt K H' v (tab c p) → Q v H'
theorem paired_map {α β γ : Type} {R : α → β → Prop} {S : α → γ → Prop} {f : β → γ} (h : ∀ x y, R x y → S x (f y)) : ∀ {xs : List α} {ys : List β}, Paired R xs ys → Paired S xs (ys.map f)
  | _, _, .nil => .nil
  | _, _, .cons a b => .cons (h _ _ a) (paired_map h b)
theorem c_table_up (T : Txt K mg) : ∀ m, Cal P w K mg base CX0 (m + 33) "_law_table" ["land_here", "works_here", "wants_here", "place_here", "most_left"] (sp_law_table K m)
  | 0 => (none_left T.d__law_table (fun _ _ _ _ _ _ us hl => match us, hl with | [_, _, _, _, _], _ => rfl) fun vs H Q E h => by
      obtain ⟨a, b, d, c, carts, p, _, _, h1, h2, _⟩ := h
      omega).mono (by omega)
  | m + 1 => by
    have ih := c_table_up T m
    refine cal0 T.d__law_table sc__law_table (fun _ _ _ _ _ _ us hl => match us, hl with | [_, _, _, _, _], _ => rfl) (fun vs H Q E h => ?_) (fun f cdv A outer s H vs Q E hr h => ?_)
    · obtain ⟨a, b, d, c, carts, p, rfl, _⟩ := h
      rfl
    · obtain ⟨a, b, d, c, carts, p, rfl, hC, hp, hm, q⟩ := h
      refine ⟨_, (pss_cons (ps_setLc (i := 5) (own := [("k", 11)]) (g := gName 11) rfl sc__law_table.nd rfl rfl (sw_true rfl rfl rfl (by decide +kernel)) (piL K (pcall (c__law_after T) (hr.mono (by omega)) (pa_cons (pv 0) (pa_cons (pv 3) pa_nil)))) (blkOk_by (own := [("k", 11)]) (N := ["land_here", "works_here", "wants_here", "place_here", "most_left", "rows", "found", "some", "best", "need", "out", "k"]) (sc := (defScope s__law_table)) (by decide +kernel)) (fun _ _ _ _ _ => pg_name (i := 11) sc__law_table.nd rfl (Or.inl rfl)) (fun _ _ _ _ _ => pts_nil) (fun _ _ _ _ _ => (pcall ih (hr.mono (by omega)) (pa_cons (pv 0) (pa_cons (pv 1) (pa_cons (pv 2) (pa_cons (pv 11) (pa_cons (pv 4) pa_nil))))))))
      (pss_cons (ps_set (i := 6) sc__law_table.nd rfl (Or.inl rfl) pe_dnewK)
      (pss_cons (ps_for PassesOwn.never rfl (pi_range1 rfl T.b_range (pa_cons (pe_op op_add (pv 4) pe_int) pa_nil)) (pg_name (i := 7) sc__law_table.nd rfl (Or.inl rfl)) (pss_cons (ps_set (i := 8) sc__law_table.nd rfl (Or.inl rfl) (pcall (c__law_best T) (hr.mono (by omega)) (pa_cons (pv 5) (pa_cons (pv 7) pa_nil))))
      (pss_one (ps_if (pt_cmpR op_notN (pv 8) pe_non (nomark _)) (pss_cons (ps_set (i := 9) sc__law_table.nd rfl (Or.inl rfl) (pe_op op_add (pe_ix (ixT K) (pv 8) pe_int (fun _ _ => rfl)) (pe_ifExp (pt_cmpR op_isN (pe_ix (ixT K) (pv 2) (pv 3) (fun _ _ => rfl)) pe_non (nomark _)) pe_int (pe_ix (ixT K) (pv 2) (pv 3) (fun _ _ => rfl)))))
      (pss_cons (ps_set (i := 10) sc__law_table.nd rfl (Or.inl rfl) (pcall (c__law_out T) (hr.mono (by omega)) (pa_cons (pv 1) (pa_cons (pv 9) (pa_cons (pv 7) pa_nil)))))
      (pss_one (ps_if (pt_cmpR op_eq (pv 3) pe_int (nomark _)) (pss_one (ps_dput (hu_of hr) (pv 6) (pv 7) (pe_tup (pa_cons (pv 9) (pa_cons pe_int (pa_cons (pe_ix (ixT K) (pv 8) pe_int (fun _ _ => rfl)) pa_nil)))) rfl)) (pss_one (ps_if (PW.pt (pw_and (pt_cmpR op_eq (pv 7) pe_int (nomark _)) (pw_and1 (pt_not (pt_val (pcall (c__law_is_wanted T) (hr.mono (by omega)) (pa_cons (pv 0) (pa_cons (pv 2) (pa_cons (pv 3) pa_nil))))))))) (pss_one (ps_dput (hu_of hr) (pv 6) (pv 7) (pe_tup (pa_cons pe_int (pa_cons pe_int (pa_cons (pe_ix (ixT K) (pv 8) pe_int (fun _ _ => rfl)) pa_nil)))) rfl)) (pss_one (ps_if (pt_cmpR op_notN (pv 10) pe_non (nomark _)) (pss_one (ps_dput (hu_of hr) (pv 6) (pv 7) (pe_tup (pa_cons (pe_op op_sub (pe_op op_add (pv 9) (pe_op op_mul pe_int (pv 10))) (pv 7)) (pa_cons (pv 10) (pa_cons (pe_ix (ixT K) (pv 8) pe_int (fun _ _ => rfl)) pa_nil)))) rfl)) pss_nil)))))))) pss_nil))))
      (pss_one (ps_ret (pv 6)))))), ?_⟩
      have h6 : c.left ≤ 6 := Nat.le_trans hC.lf hC.c6
      have hn := hC.n
      -- rows = [_law_table(..) for k in _law_after(..)]
      refine ⟨_, rfl, _, rfl, a, c.L, p, rfl, hC.l, hC.n, fun kl H1 nkl s1 hkl => ?_⟩
      refine ⟨kl, rfl, ⟨_, sql hkl⟩, fun tl htl => ?_⟩
      refine lc_rel (walk_list (xs := (kids c.L p).map fun (k : Nat) => V.int (k : Int))) htl (by rw [List.length_map]; have := kids_len c.L p; omega) (fun H' s => sql (s _ _ hkl)) (fun _ => true)
        (fun i v H' => ∃ k, (kids c.L p)[i]? = some k ∧ LTabAt K H' v (tab c k)) (fun i v H2 H3 l hl sb r => ?_) (fun i x H2 H3 l hi s2 hy y => ?_) (fun ys H2 s2 hy hp' => ?_)
      · obtain ⟨k, hk, r⟩ := r
        exact ⟨k, hk, r.sb hl sb⟩
      · obtain ⟨rfl, hx⟩ := y
        rw [List.getElem?_map] at hx
        obtain ⟨k, hk, rfl⟩ := Option.map_eq_some_iff.mp hx
        have hkk := kids_gt hC.wf (List.mem_of_getElem? hk)
        refine ⟨Same.refl _, rfl, fun Q' q' => q' H3 (Same.refl _), fun _ H4 s4 Q' q' => ?_⟩
        exact ⟨_, rfl, _, rfl, _, rfl, _, rfl, _, rfl, a, b, d, c, carts, k, rfl, hC.same (s1.trans (s2.trans s4)), hkk.2, by omega, fun v H5 s5 hv => q' v H5 s5 ⟨k, hk, hv⟩⟩
      · have hys : Paired (fun v k => LTabAt K H2 v (tab c k)) ys (kids c.L p) := by
          rw [show (List.range ((kids c.L p).map fun (k : Nat) => V.int (k : Int)).length).filter (fun _ => true) = List.range (kids c.L p).length by simp] at hp'
          exact turns_items (Rr := fun v k => LTabAt K H2 v (tab c k)) hp'
        have htk : Paired (TakAt K H2) ys ((kids c.L p).map fun k => takes (tab c k)) := paired_map (fun v k r => r.tak) hys
        have s02 := s1.trans s2
        generalize hts : ((kids c.L p).map fun k => takes (tab c k)) = ts at htk
        have hnd : ∀ tb ∈ ts, (tb.map (·.1)).Nodup ∧ tb.length ≤ 1000 := fun tb htb => by
          rw [← hts] at htb
          obtain ⟨k, hk, rfl⟩ := List.mem_map.mp htb
          have hk2 := (kids_gt hC.wf hk).2
          refine ⟨takes_nd (tab_nd hC.wf hk2), ?_⟩
          rw [takes_len]
          have := tab_len hC.wf hk2
          omega
        have hlt : ts.length ≤ 30 := by
          rw [← hts, List.length_map]
          have := kids_len c.L p
          omega
        have et : tab c p = rowsUp c p ts (c.left + 1) := by rw [tab_eq hC.wf hp, tabOf_up, hts]
        -- found = {}
        refine fun fd nfd => ?_
        have nfdH : H fd = none := s02.free nfd
        -- for some in range(most_left + 1)
        refine ⟨_, rfl, _, _, rfl, rfl, _, rfl, by omega, by omega, ?_⟩
        rw [show (((c.left : Nat) : Int) + 1).toNat = c.left + 1 by omega]
        refine for_it walk_range (fun j σ H3 => ∃ kv y7 y8 y9 y10 y11, σ = [some (.ref a), some (.ref b), some (.ref d), some (.int ((p : Nat) : Int)), some (.int ((c.left : Nat) : Int)), some (.ref tl), some (.ref fd), y7, y8, y9, y10, y11] ∧ Same H2 H3 ∧ H3 fd = some (.dK kv) ∧ PairD (LRowAt K H3) kv (rowsUp c p ts j))
          ⟨[], none, none, none, none, none, rfl, same_new nfd, upd_same, .nil⟩ (fun _ _ _ _ _ => trivial) (fun j x σ H3 H4 hj p' y => ?_) (fun σ H3 p' => ?_)
        · obtain ⟨kv, y7, y8, y9, y10, y11, rfl, s3, hf3, pd3⟩ := p'
          obtain ⟨rfl, rfl⟩ := y
          dsimp only
          rw [Int.zero_add]
          have hp3 : Paired (TakAt K H4) ys ts := paired_imp htk fun _ _ z => z.same s3
          -- best = _law_best(rows, some)
          refine ⟨_, rfl, _, rfl, tl, ys, ts, j, rfl, sql (s3 _ _ hy), hp3, hnd, hlt, by omega, fun v H5 s5 hv => ?_⟩
          have s25 := s3.trans s5
          have s05 := s02.trans s25
          have pd5 : PairD (LRowAt K H5) kv (rowsUp c p ts j) := pd_imp pd3 fun _ _ z => z.tx (same_tx s5)
          have hf5 : H5 fd = some (.dK kv) := s5 _ _ hf3
          have hkl : kv.length < sizeLine := by
            have h1 := pd_len pd5
            have := rowsUp_len c p ts j
            exact Nat.lt_of_le_of_lt (show kv.length ≤ 1000 by omega) (small1000 (Nat.le_refl _))
          cases hb : best ts j with
          | none =>
            rw [hb] at hv
            have hv : v = .non := hv
            subst hv
            refine ⟨_, rfl, rfl, false, rfl, iteF ?_⟩
            have hro : Oat.rowOf c p ts j = none := by
              unfold Oat.rowOf needOf
              rw [hb]
              rfl
            refine ⟨kv, _, _, _, _, _, rfl, s25, hf5, ?_⟩
            rw [rowsUp_succ, hro, List.append_nil]
            exact pd5
          | some e =>
            rw [hb] at hv
            obtain ⟨pa, pb, rfl, hv1, hv2⟩ := hv
            have hno : needOf c.W p ts j = some (e.1 + wantN c.W p, e.2) := by
              unfold needOf
              rw [hb]
              rfl
            have hro : Oat.rowOf c p ts j = takenOf c p (e.1 + wantN c.W p, e.2) j := by
              unfold Oat.rowOf
              rw [hno]
              rfl
            refine ⟨_, rfl, rfl, true, rfl, iteT ?_⟩
            -- need
            have hw5 := same_t s05 hC.w
            have hwa : atI (wantsV c.W) ((p : Nat) : Int) = some (optV (c.W.getD p none)) := atI_nat (wants_at (by have := hC.wl; omega))
            refine ⟨_, rfl, pa, _, 0, _, rfl, rfl, hv1, rfl, ?_⟩
            have key : ∀ Q : VK, Q (.int (wantN c.W p)) H5 → tIf (tTest (tOp (fun x y H Q => y = .non ∧ Q (.bl (decide (x = .non))) H) (tOp (rIxT K) (tVar 2) (tVar 3)) (tC .non))) (tC (.int 0)) (tOp (rIxT K) (tVar 2) (tVar 3))
                [some (.ref a), some (.ref b), some (.ref d), some (.int ((p : Nat) : Int)), some (.int ((c.left : Nat) : Int)), some (.ref tl), some (.ref fd), some (.int ((j : Nat) : Int)), some (.ref pa), y9, y10, y11] H5 Q := by
              intro Q' q'
              refine ⟨_, rfl, _, rfl, d, _, _, _, rfl, rfl, hw5, hwa, rfl, _, rfl, ?_⟩
              unfold wantN at q'
              cases hw : c.W.getD p none with
              | none =>
                rw [hw] at q'
                exact iteT q'
              | some u =>
                rw [hw] at q' hwa
                exact iteF ⟨_, rfl, _, rfl, d, _, _, _, rfl, rfl, hw5, hwa, q'⟩
            refine key _ ⟨_, _, rfl, rfl, ?_⟩
            have put : ∀ (D : Ends) (σ : L2.St) (r : TRow) (z : Addr) (H6 : Hp), takenOf c p (e.1 + wantN c.W p, e.2) j = some r → Same H5 H6 → H6 z = none →
                (∀ σ H3, (∃ kv y7 y8 y9 y10 y11, σ = [some (.ref a), some (.ref b), some (.ref d), some (.int ((p : Nat) : Int)), some (.int ((c.left : Nat) : Int)), some (.ref tl), some (.ref fd), y7, y8, y9, y10, y11] ∧ Same H2 H3 ∧ H3 fd = some (.dK kv) ∧ PairD (LRowAt K H3) kv (rowsUp c p ts (j + 1))) → D.nx σ H3) →
                r.part = e.2 → ∀ y8 y9 y10 y11, D.nx [some (.ref a), some (.ref b), some (.ref d), some (.int ((p : Nat) : Int)), some (.int ((c.left : Nat) : Int)), some (.ref tl), some (.ref fd), some (.int ((j : Nat) : Int)), y8, y9, y10, y11]
                  (upd (upd H6 z (.tup [.int r.tk, .int r.out, .ref pb])) fd (.dK (putK kv (.inl ((j : Nat) : Int)) (.ref z)))) := by
              intro D σ r z H6 hr s6 nz hD hpart y8 y9 y10 y11
              have s7 : Same H5 (upd H6 z (.tup [.int r.tk, .int r.out, .ref pb])) := s6.trans (same_new nz)
              have hrow : LRowAt K (upd H6 z (.tup [.int r.tk, .int r.out, .ref pb])) (.ref z) r := ⟨z, pb, rfl, sqt upd_same, by rw [hpart]; exact same_t s7 hv2⟩
              generalize (upd H6 z (.tup [.int r.tk, .int r.out, .ref pb])) = H7 at s7 hrow ⊢
              have x7 : TExt H7 (upd H7 fd (.dK (putK kv (.inl ((j : Nat) : Int)) (.ref z)))) := tx_upd (by rw [s7 _ _ hf5]; trivial)
              refine hD _ _ ⟨_, _, _, _, _, _, rfl, same_mut (s25.trans s7) nfd, upd_same, ?_⟩
              rw [← rowsUp_put (hro.trans hr)]
              exact pd_put (rowsUp_nd _ _ _ _) (pd_imp pd5 fun _ _ z => z.tx ((same_tx s7).trans x7)) (hrow.tx x7)
            -- behind need
            dsimp only
            generalize e.1 + wantN c.W p = need at put hro ⊢
            refine ⟨_, rfl, _, rfl, _, rfl, b, carts, c.room, need, j, rfl, same_t s05 hC.k, hC.r2, hC.r20, by omega, ?_⟩
            dsimp only [gName]
            refine if0 (b := decide (p = 0)) (fun Q' q' => ⟨_, rfl, rfl, _, rfl, ?_⟩) (fun hb0 => ?_) (fun hb0 => ?_)
            · rw [show decide (V.int ((p : Nat) : Int) = V.int 0) = decide (p = 0) from decide_eq_decide.mpr ⟨fun h => by injection h with h; omega, fun h => by rw [h]; rfl⟩]
              exact q'
            · have hp0 := of_decide_eq_true hb0
              have htk : takenOf c p (need, e.2) j = some ⟨need, 0, 0, e.2⟩ := if_pos hp0
              refine ⟨_, rfl, _, rfl, pa, _, 1, _, rfl, rfl, hv1, rfl, (by show 3 ≤ sizeLine; decide), fun z nz => ?_⟩
              refine ⟨_, rfl, _, rfl, fd, _, rfl, .inl ⟨kv, .inl ((j : Nat) : Int), (same_new nz) _ _ hf5, rfl, hkl, rfl⟩, ?_⟩
              exact put _ [] _ z H5 htk (Same.refl _) nz (fun _ _ h => h) rfl _ _ _ _
            · have hp0 := of_decide_eq_false hb0
              have last : ∀ (D : Ends) (H6 : Hp), Same H5 H6 → ¬ (j = 0 ∧ wanted c.L c.W p = false) →
                  (∀ σ H3, (∃ kv y7 y8 y9 y10 y11, σ = [some (.ref a), some (.ref b), some (.ref d), some (.int ((p : Nat) : Int)), some (.int ((c.left : Nat) : Int)), some (.ref tl), some (.ref fd), y7, y8, y9, y10, y11] ∧ Same H2 H3 ∧ H3 fd = some (.dK kv) ∧ PairD (LRowAt K H3) kv (rowsUp c p ts (j + 1))) → D.nx σ H3) →
                  (tIfS (tTest (tOp (fun x y H Q => y = .non ∧ Q (.bl (!decide (x = .non))) H) (tVar 10) (tC .non)))
                    (sDPut (tVar 6) (tVar 7) (tTup (tCons (tOp (rI0 fun i j => .int (i - j)) (tOp (rI0 fun i j => .int (i + j)) (tVar 9) (tOp (rI CMul fun i j => .int (i * j)) (tC (.int 2)) (tVar 10))) (tVar 7)) (tCons (tVar 10) (tCons (tOp (rIxT K) (tVar 8) (tC (.int 1))) tNil)))))
                    tNext) D [some (.ref a), some (.ref b), some (.ref d), some (.int ((p : Nat) : Int)), some (.int ((c.left : Nat) : Int)), some (.ref tl), some (.ref fd), some (.int ((j : Nat) : Int)), some (.ref pa), some (.int need), some (oiV (outF c.room need j)), y11] H6 := by
                intro D H6 s6 nz hD
                have htk : takenOf c p (need, e.2) j = (outF c.room need j).map fun o => ⟨need + 2 * o - j, o, o - j, e.2⟩ := by
                  unfold takenOf
                  rw [if_neg hp0, if_neg nz]
                cases ho : outF c.room need j with
                | none =>
                  rw [ho] at htk
                  refine ⟨_, rfl, rfl, false, rfl, iteF ?_⟩
                  refine hD _ _ ⟨kv, _, _, _, _, _, rfl, s25.trans s6, s6 _ _ hf5, ?_⟩
                  rw [rowsUp_succ, hro, htk]
                  show PairD _ kv (rowsUp c p ts j ++ [])
                  rw [List.append_nil]
                  exact pd_imp pd5 fun _ _ z => z.tx (same_tx s6)
                | some o =>
                  rw [ho] at htk
                  refine ⟨_, rfl, rfl, true, rfl, iteT ?_⟩
                  refine ⟨_, rfl, _, rfl, _, _, rfl, rfl, .inl ⟨by decide, by decide⟩, _, _, rfl, rfl, _, rfl, _, _, rfl, rfl, _, rfl, _, rfl, pa, _, 1, _, rfl, rfl, same_t s6 hv1, rfl, (by show 3 ≤ sizeLine; decide), fun z nz => ?_⟩
                  refine ⟨_, rfl, _, rfl, fd, _, rfl, .inl ⟨kv, .inl ((j : Nat) : Int), (same_new nz) _ _ (s6 _ _ hf5), rfl, hkl, rfl⟩, ?_⟩
                  exact put _ [] _ z H6 htk s6 nz hD rfl _ _ _ _
              refine ⟨_, rfl, rfl, _, rfl, ?_⟩
              rw [show decide (V.int ((j : Nat) : Int) = V.int 0) = decide (j = 0) from decide_eq_decide.mpr ⟨fun h => by injection h with h; omega, fun h => by rw [h]; rfl⟩]
              refine ite2 (fun hj0 => ?_) (fun hj0 => ?_)
              · have hj0 := of_decide_eq_true hj0
                subst hj0
                refine ⟨_, rfl, _, rfl, _, rfl, a, c.L, d, c.W, p, rfl, same_t s05 hC.l, same_t s05 hC.w, hC.wf, hC.n, hC.wl, hp, by omega, fun H6 s6 => ⟨_, rfl, ?_⟩⟩
                cases hw : wanted c.L c.W p with
                | true => exact iteF (last _ H6 s6 (fun z => by rw [hw] at z; cases z.2) (fun _ _ h => h))
                | false =>
                  refine iteT ?_
                  have htk : takenOf c p (need, e.2) 0 = some ⟨0, 0, 0, e.2⟩ := by
                    unfold takenOf
                    rw [if_neg hp0, if_pos ⟨rfl, hw⟩]
                  refine ⟨_, rfl, pa, _, 1, _, rfl, rfl, same_t s6 hv1, rfl, (by show 3 ≤ sizeLine; decide), fun z nz => ?_⟩
                  refine ⟨_, rfl, _, rfl, fd, _, rfl, .inl ⟨kv, .inl ((0 : Nat) : Int), (same_new nz) _ _ (s6 _ _ hf5), rfl, hkl, rfl⟩, ?_⟩
                  exact put _ [] _ z H6 htk s6 nz (fun _ _ h => h) rfl _ _ _ _
              · have hj0 := of_decide_eq_false (Bool.eq_false_iff.mpr hj0)
                exact iteF (last _ H5 (Same.refl _) (fun z => hj0 z.1) (fun _ _ h => h))
        · obtain ⟨kv, y7, y8, y9, y10, y11, rfl, s3, hf3, pd3⟩ := p'
          refine ⟨_, rfl, q _ _ (s02.trans s3) ⟨fd, kv, rfl, hf3, ?_⟩⟩
          rw [et]
          exact pd3
end
end Oa
namespace Oa
open PySem PySem.Spec PyProof.Rows L2 Oat
section
variable {P : Program} {w : World} {K : PySem.W.Frag} {mg : Str → Option Value} {base : Heap}
theorem c__law_table (T : Txt K mg) : Cal P w K mg base CX0 63 "_law_table" ["land_here", "works_here", "wants_here", "place_here", "most_left"] (sp_law_table K 30) := c_table_up T 30
/-! ### _law_least -/
theorem least_min {c : Case} {m : Int} (h1 : m ∈ (takes (tab c 0)).map (·.2)) (h2 : ∀ y ∈ (takes (tab c 0)).map (·.2), m ≤ y) : least c = some m := by
  unfold least
  have hne : takes (tab c 0) ≠ [] := fun z => by rw [z] at h1; cases h1
  obtain ⟨n, e, hn, hm⟩ := bestL_some hne
  rw [e]
  show some n.1 = some m
  congr 1
  obtain ⟨x, hx, rfl⟩ := List.mem_map.mp h1
  have a := plt_no.mp (hm x hx)
  have b := h2 n.1 (List.mem_map.mpr ⟨(n.2, n.1), hn, rfl⟩)
  dsimp only at a b
  omega
theorem c__law_least (T : Txt K mg) : Cal P w K mg base CX0 64 "_law_least" ["land_here", "works_here", "wants_here", "most_left"] (sp_least_of K) := by
  refine cal0 T.d__law_least sc__law_least (fun _ _ _ _ _ _ us hl => match us, hl with | [_, _, _, _], _ => rfl) (fun vs H Q E h => ?_) (fun f cdv A outer s H vs Q E hr h => ?_)
  · obtain ⟨a, b, d, c, carts, rfl, _⟩ := h
    rfl
  · obtain ⟨a, b, d, c, carts, rfl, hC, q⟩ := h
    refine ⟨_, (pss_cons (ps_set (i := 4) sc__law_least.nd rfl (Or.inr rfl) (pcall (c__law_table T) (hr.mono (by omega)) (pa_cons (pv 0) (pa_cons (pv 1) (pa_cons (pv 2) (pa_cons pe_int (pa_cons (pv 3) pa_nil)))))))
      (pss_one (ps_ret (pe_ifExp (pt_cmpR (op_neE hr.units0) (pv 4) pe_dnewK (nomark _)) (pe_callB (minI K rfl) rfl T.b_min (by decide +kernel) (pa_cons (pe_lock (pe_lc (own := [("k", 5)]) (g := gName 5) rfl sc__law_least.nd (pi_keys (pv 4)) (blkOk_by (own := [("k", 5)]) (N := ["land_here", "works_here", "wants_here", "most_left", "table", "k"]) (sc := (defScope s__law_least)) (by decide +kernel)) (fun _ _ _ _ _ => pg_name (i := 5) sc__law_least.nd rfl (Or.inl rfl)) (fun _ _ _ _ _ => pts_nil) (fun _ _ _ _ _ => (pe_ix (ixT K) (pe_dget (hu_of hr) (pv 4) (pv 5) (fun _ _ => rfl)) pe_int (fun _ _ => rfl))))) pa_nil)) pe_non)))), ?_⟩
    have h6 : c.left ≤ 6 := Nat.le_trans hC.lf hC.c6
    have hn := hC.n
    refine ⟨_, rfl, _, rfl, _, rfl, _, rfl, a, b, d, c, carts, 0, rfl, hC, Nat.zero_le _, by omega, fun v H1 s1 hv => ?_⟩
    obtain ⟨dt, kvs, rfl, hd, pd⟩ := hv
    have nd := tab_nd hC.wf (Nat.zero_le _)
    have hl := tab_len hC.wf (Nat.zero_le c.L.length)
    refine ⟨_, rfl, fun e0 ne0 => ?_⟩
    have s2 : Same H1 (upd H1 e0 (.dK [])) := same_new ne0
    refine ⟨dt, e0, kvs, rfl, rfl, s2 _ _ hd, upd_same, _, rfl, ?_⟩
    have hd2 := s2 _ _ hd
    have pd2 : PairD (LRowAt K (upd H1 e0 (.dK []))) kvs (tab c 0) := pd_imp pd fun _ _ z => z.tx (same_tx s2)
    have s02 := s1.trans s2
    generalize (upd H1 e0 (.dK [])) = H2 at hd2 pd2 s02
    cases hk : kvs with
    | nil =>
      rw [hk] at pd
      refine iteF ?_
      have : tab c 0 = [] := by
        revert pd
        generalize tab c 0 = t
        intro pd
        cases pd
        rfl
      have e : least c = none := by
        unfold least
        rw [this]
        rfl
      rw [e] at q
      exact q _ s02
    | cons k0 kr =>
      refine iteT ?_
      have hk0 : 0 < kvs.length := by rw [hk]; simp
      clear hk
      refine ⟨dt, .dK kvs, hd2, trivial, fun od => ?_⟩
      have x1 : TExt H2 (upd H2 dt (.frz od (.dK kvs))) := tx_upd (by rw [hd2]; trivial)
      refine ⟨_, rfl, dt, od, rfl, .inl ⟨kvs, upd_same, fun D hD => ?_⟩⟩
      refine lc_rel walk_keys hD (by rw [pd_len pd]; omega) (fun H' s => s _ _ upd_same) (fun _ => true) (fun i v _ => ∃ e, (takes (tab c 0))[i]? = some e ∧ v = .int e.2)
        (fun _ _ _ _ _ _ _ h => h) (fun i x H4 H5 l hi s4 hy y => ?_) (fun ys H4 s4 hy hp => ?_)
      · obtain ⟨rfl, k, v, hk, rfl⟩ := y
        obtain ⟨n, t, he, rfl, re⟩ := pd_at pd2 hk
        have dg : dget (tab c 0) n = some t := dget_at nd he
        obtain ⟨v1, hv1, p, qq, rfl, hh, _⟩ := (pd_get n pd2).2 t dg
        refine ⟨Same.refl _, rfl, fun Q' q' => q' H5 (Same.refl _), fun _ H6 s6 Q' q' => ?_⟩
        refine ⟨_, rfl, _, rfl, dt, .ref p, rfl, .inl ⟨kvs, .inl _, .inr ⟨od, (s4.trans s6) _ _ upd_same⟩, rfl, hv1.symm⟩, p, _, 0, _, rfl, rfl, (x1.trans ((same_tx s4).trans (same_tx s6))).t hh, atI_nat (j := 0) rfl, ?_⟩
        refine q' _ _ (Same.refl _) ⟨(n, t.tk), ?_, rfl⟩
        unfold takes
        rw [List.getElem?_map, he]
        rfl
      · have hfz : H4 dt = some (.frz od (.dK kvs)) := s4 _ _ upd_same
        refine ⟨hfz, ?_⟩
        have hDd : D ≠ dt := fun e => by rw [e, upd_same] at hD; cases hD
        have s5 : Same H2 (upd H4 dt (.dK kvs)) := lock_same hd2 s4
        have hy5 : (upd H4 dt (.dK kvs)) D = some (.lst ys) := by rw [upd_ne hDd]; exact hy
        have hlt : kvs.length = (takes (tab c 0)).length := by rw [pd_len pd, takes_len]
        have hpr : Paired (fun v e => v = .int e.2) ys (takes (tab c 0)) := by
          rw [show (List.range kvs.length).filter (fun _ => true) = List.range kvs.length by simp, hlt] at hp
          exact turns_items (Rr := fun v (e : Nat × Int) => v = .int e.2) hp
        have hys : ys = ((takes (tab c 0)).map (·.2)).map V.int := by
          have : ∀ {ys : List V} {l : List (Nat × Int)}, Paired (fun v e => v = .int e.2) ys l → ys = (l.map (·.2)).map V.int := by
            intro ys l h
            induction h with
            | nil => rfl
            | cons a b ih => rw [a, ih]; rfl
          exact this hpr
        refine ⟨D, (takes (tab c 0)).map (·.2), rfl, sql (by rw [hy5, hys]), ?_, fun m hm1 hm2 => ?_⟩
        · rw [List.length_map, ← hlt]
          exact hk0
        · rw [least_min hm1 hm2] at q
          exact q _ (s02.trans s5)
/-! ### blocked -/
def blockedL (c : Case) : List Nat := (List.range (c.L.length + 1)).filter fun k => (tab c k).isEmpty && (kids c.L k).all fun q => !(tab c q).isEmpty
def sp_blocked (K : PySem.W.Frag) : Sp := fun vs H Q _ => ∃ a b d c carts, vs = [.ref a, .ref b, .ref d, .int ((c.left : Nat) : Int)] ∧ CaseAt K H a b d c carts ∧ c.room ≤ 20 ∧ ∀ l H', Same H H' → H' l = some (.lst ((blockedL c).map fun (k : Nat) => V.int (k : Int))) → Q (.ref l) H'
theorem pd_empty {α : Type} {R : V → α → Prop} {kvs : List (Key × V)} {F : List (Nat × α)} (h : PairD R kvs F) : kvs.isEmpty = F.isEmpty := by
  cases h <;> rfl
end
end Oa
namespace Oat
theorem told_known {c : Case} (wf : WfL c.L) {cs : List Nat} (h : told c = some cs) : cs.length = c.L.length + 1 ∧ ∀ p, p ≤ c.L.length → ∃ r, dget (tab c p) (cs.getD p 0) = some r := by
  unfold told at h
  obtain ⟨m, hm, rfl⟩ := Option.map_eq_some_iff.mp h
  have := known_upto wf hm (c.L.length + 1) (Nat.le_refl _)
  refine ⟨this.1, fun p hp => Option.isSome_iff_exists.mp (this.2 p hp ?_)⟩
  by_cases z : p = 0
  · exact .inl z
  · have := wf (p - 1) (by omega)
    exact .inr (by omega)
def timeAt (c : Case) (cs : List Nat) (p : Nat) : Int × Int := match dget (tab c p) (cs.getD p 0) with
  | some r => (r.out, r.back)
  | none => (0, 0)
def timesOf (c : Case) (cs : List Nat) : List (Int × Int) := (List.range c.L.length).map fun i => timeAt c cs (i + 1)
end Oat
namespace Oa
open PySem PySem.Spec PyProof.Rows L2 Oat
section
variable {P : Program} {w : World} {K : PySem.W.Frag} {mg : Str → Option Value} {base : Heap}
mutual
theorem dp_same {H H' : Hp} (s : Same H H') : ∀ {v : V} {d : PyData}, Dp K H v d → Dp K H' v d
  | _, _, .non => .non
  | _, _, .bl b => .bl b
  | _, _, .int i => .int i
  | _, _, .str x => .str x
  | _, _, .lst h a => .lst (same_l s h) (dpAll_same s a)
  | _, _, .tup h a => .tup (same_t s h) (dpAll_same s a)
theorem dpAll_same {H H' : Hp} (s : Same H H') : ∀ {v : List V} {d : List PyData}, DpAll K H v d → DpAll K H' v d
  | _, _, .nil => .nil
  | _, _, .cons a b => .cons (dp_same s a) (dpAll_same s b)
end
mutual
def noLst : PyData → Bool
  | .none | .bool _ | .int _ | .str _ => true
  | .tuple xs => noLstAll xs
  | .list _ | .dict _ => false
def noLstAll : List PyData → Bool
  | [] => true
  | x :: xs => noLst x && noLstAll xs
end
mutual
theorem dp_tx {H H' : Hp} (x : TExt H H') : ∀ {v : V} {d : PyData}, noLst d = true → Dp K H v d → Dp K H' v d
  | _, _, _, .non => .non
  | _, _, _, .bl b => .bl b
  | _, _, _, .int i => .int i
  | _, _, _, .str y => .str y
  | _, _, h, .lst _ _ => by simp [noLst] at h
  | _, _, h, .tup h1 a => .tup (x.t h1) (dpAll_tx x (by simpa only [noLst] using h) a)
theorem dpAll_tx {H H' : Hp} (x : TExt H H') : ∀ {v : List V} {d : List PyData}, noLstAll d = true → DpAll K H v d → DpAll K H' v d
  | _, _, _, .nil => .nil
  | _, _, h, .cons a b => by
    simp only [noLstAll, Bool.and_eq_true] at h
    exact .cons (dp_tx x h.1 a) (dpAll_tx x h.2 b)
end
theorem sql_sb {H H' : Hp} {D l : Addr} {xs : List V} (sb : ∀ b o, b ≠ D → H b = some o → H' b = some o) (hne : l ≠ D) (h : SqL K H l xs) : SqL K H' l xs := by
  rcases h with (h | ⟨o, h⟩) | h
  · exact .inl (.inl (sb _ _ hne h))
  · exact .inl (.inr ⟨o, sb _ _ hne h⟩)
  · exact .inr h
theorem dp_sb {H H' : Hp} {D l : Addr} {zs : List V} {ds : List PyData} (hl : H D = some (.lst zs)) (sb : SameBut D H H') (hne : l ≠ D) (hn : noLstAll ds = true) (h : Dp K H (.ref l) (.list ds)) : Dp K H' (.ref l) (.list ds) := by
  cases h with
  | lst h1 h2 => exact .lst (sql_sb sb hne h1) (dpAll_tx (tx_sb hl sb) hn h2)
theorem noLst_nats : ∀ cs : List Nat, noLstAll (cs.map fun (n : Nat) => .int (n : Int)) = true
  | [] => by simp [noLstAll]
  | c :: cs => by simp only [List.map_cons, noLstAll, noLst, noLst_nats cs, Bool.and_self]
def natsD (cs : List Nat) : PyData := .list (cs.map fun (n : Nat) => .int (n : Int))
def pairD (x : Int × Int) : PyData := .tuple [.int x.1, .int x.2]
def pairsD (xs : List (Int × Int)) : PyData := .list (xs.map pairD)
theorem noLst_pairs : ∀ xs : List (Int × Int), noLstAll (xs.map pairD) = true
  | [] => by simp [noLstAll]
  | c :: cs => by simp only [List.map_cons, noLstAll, pairD, noLst, noLst_pairs cs, Bool.and_self]
theorem dpAll_nats {H : Hp} : ∀ (cs : List Nat), DpAll K H (cs.map fun (n : Nat) => V.int (n : Int)) (cs.map fun (n : Nat) => .int (n : Int))
  | [] => .nil
  | _ :: cs => .cons (.int _) (dpAll_nats cs)
theorem dp_nats {H : Hp} {l : Addr} {cs : List Nat} (h : SqL K H l (cs.map fun (n : Nat) => V.int (n : Int))) : Dp K H (.ref l) (natsD cs) := .lst h (dpAll_nats cs)
/-! ### left_beyond -/
def sp_left_beyond (K : PySem.W.Frag) : Sp := fun vs H Q E => ∃ a b d c carts, vs = [.ref a, .ref b, .ref d, .int ((c.left : Nat) : Int)] ∧ CaseAt K H a b d c carts ∧ c.room ≤ 20 ∧
  (told c = none → ∀ H', Same H H' → E (.ref (He.ga K "NoneSuch")) none H') ∧ (∀ cs, told c = some cs → ∀ l H', Same H H' → H l = none → H' l = some (.lst (cs.map fun (n : Nat) => V.int (n : Int))) → Q (.ref l) H')
/-! ### crossings -/
def sp_crossings (K : PySem.W.Frag) : Sp := fun vs H Q E => ∃ a b d c carts, vs = [.ref a, .ref b, .ref d, .int ((c.left : Nat) : Int)] ∧ CaseAt K H a b d c carts ∧ c.room ≤ 20 ∧
  (told c = none → ∀ H', Same H H' → E (.ref (He.ga K "NoneSuch")) none H') ∧ (∀ cs, told c = some cs → ∀ l H', Same H H' → H l = none → Dp K H' (.ref l) (pairsD (timesOf c cs)) → Q (.ref l) H')
/-! ### _law_refusal -/
def errW (x : Str) : Str := if x = "BadLand" then "land" else if x = "BadWorks" then "works" else if x = "BadWants" then "wants" else if x = "BadPlan" then "plan" else if x = "BadPaper" then "paper" else if x = "BadText" then "text" else "none"
def sp_law_refusal (K : PySem.W.Frag) : Sp := fun vs H Q _ => ∃ a x, vs = [.ref a] ∧ x ∈ errN ∧ H a = some (ExH (.ref (He.ga K x)) none a) ∧ ∀ H', Same H H' → Q (.str (errW x)) H'
end
end Oa
namespace Oat
open Oa
theorem stepBest_nil (left : Nat) (F : Fnd) : stepBest left F [] = [] := by
  unfold stepBest
  have : ∀ (F : Fnd) (acc : Fnd), F.foldl (fun acc e => ([] : List (Nat × Int)).foldl (addRow left e.1 e.2) acc) acc = acc := by
    intro F
    induction F with
    | nil => intro acc; rfl
    | cons e F ih => intro acc; exact ih acc
  exact this F []
theorem bestF_empty {ts : List (List (Nat × Int))} {left : Nat} (h : [] ∈ ts) : bestF ts left = [] := by
  obtain ⟨a, b, rfl⟩ := List.append_of_mem h
  unfold bestF
  rw [List.foldl_append, List.foldl_cons, stepBest_nil]
  clear h
  induction b with
  | nil => rfl
  | cons t b ih => exact ih
theorem tab_empty_up {c : Case} (wf : WfL c.L) {p k : Nat} (hp : p ≤ c.L.length) (hk : k ∈ kids c.L p) (h : tab c k = []) : tab c p = [] := by
  rw [tab_eq wf hp, tabOf_up]
  refine List.eq_nil_iff_forall_not_mem.mpr fun x hx => ?_
  have := (rowsUp_mem hx).2
  obtain ⟨b, hb⟩ := rowOf_best this
  have hn : best ((kids c.L p).map fun k => takes (tab c k)) x.1 = none := best_none.mpr (bestF_empty (List.mem_map.mpr ⟨k, hk, by rw [h]; rfl⟩))
  rw [hn] at hb
  cases hb
theorem tab_empty_zero {c : Case} (wf : WfL c.L) : ∀ (n k : Nat), k ≤ n → k ≤ c.L.length → tab c k = [] → tab c 0 = []
  | n, 0, _, _, h => h
  | 0, k + 1, hn, _, _ => by omega
  | n + 1, k + 1, hn, hk, h => by
    have hm : k + 1 ∈ kids c.L (c.L.getD k 0) := mem_kids.mpr ⟨k, by omega, rfl, rfl⟩
    have hw := wf k (by omega)
    exact tab_empty_zero wf n (c.L.getD k 0) (by omega) (by omega) (tab_empty_up wf (by omega) hm h)
theorem mem_blocked {c : Case} {k : Nat} : k ∈ blockedL c ↔ k ≤ c.L.length ∧ tab c k = [] ∧ ∀ q ∈ kids c.L k, tab c q ≠ [] := by
  unfold blockedL
  rw [List.mem_filter, List.mem_range, Bool.and_eq_true_iff, List.isEmpty_iff, List.all_eq_true]
  constructor
  · rintro ⟨h1, h2, h3⟩
    exact ⟨by omega, h2, fun q hq e => by have := h3 q hq; rw [e] at this; cases this⟩
  · rintro ⟨h1, h2, h3⟩
    refine ⟨by omega, h2, fun q hq => ?_⟩
    have := h3 q hq
    cases e : tab c q with
    | nil => exact absurd e this
    | cons _ _ => rfl
theorem blocked_exists {c : Case} (wf : WfL c.L) : ∀ (n p : Nat), c.L.length < n + p → p ≤ c.L.length → tab c p = [] → ∃ k, k ∈ blockedL c
  | 0, p, h1, h2, _ => by omega
  | n + 1, p, h1, h2, h => by
    by_cases hk : ∀ q ∈ kids c.L p, tab c q ≠ []
    · exact ⟨p, mem_blocked.mpr ⟨h2, h, hk⟩⟩
    · have : ∃ q, q ∈ kids c.L p ∧ tab c q = [] := by
        refine Classical.byContradiction fun hn => hk fun q hq e => hn ⟨q, hq, e⟩
      obtain ⟨q, hq, hq2⟩ := this
      have := kids_gt wf hq
      exact blocked_exists wf n q (by omega) (by omega) hq2
theorem least_none {c : Case} : least c = none ↔ tab c 0 = [] := by
  unfold least
  rw [Option.map_eq_none_iff, bestL_none]
  unfold takes
  rw [List.map_eq_nil_iff]
theorem told_none {c : Case} : told c = none ↔ least c = none := by
  unfold least told
  rw [Option.map_eq_none_iff, Option.map_eq_none_iff]
theorem least_blocked {c : Case} (wf : WfL c.L) : decide (least c = none) = !(blockedL c).isEmpty := by
  rw [Bool.eq_iff_iff, decide_eq_true_eq, least_none]
  constructor
  · intro h
    obtain ⟨k, hk⟩ := blocked_exists wf (c.L.length + 1) 0 (by omega) (Nat.zero_le _) h
    cases e : blockedL c with
    | nil => rw [e] at hk; cases hk
    | cons _ _ => rfl
  · intro h
    cases e : blockedL c with
    | nil => rw [e] at h; cases h
    | cons k l =>
      have hk := mem_blocked.mp (show k ∈ blockedL c by rw [e]; exact List.mem_cons_self)
      exact tab_empty_zero wf k k (Nat.le_refl _) hk.1 hk.2.1
/-- behind the base: what goes back -/
theorem tab_back {c : Case} (wf : WfL c.L) {p e : Nat} {r : TRow} (hp : p ≤ c.L.length) (h0 : p ≠ 0) (h : dget (tab c p) e = some r) : r.back = r.out - e := by
  obtain ⟨_, hr⟩ := tab_row wf hp h
  unfold Oat.rowOf at hr
  cases hn : needOf c.W p ((kids c.L p).map fun k => takes (tab c k)) e with
  | none => rw [hn] at hr; cases hr
  | some n =>
    rw [hn] at hr
    have hr : takenOf c p n e = some r := hr
    unfold takenOf at hr
    rw [if_neg h0] at hr
    split at hr
    · rename_i z
      have := Option.some.inj hr
      subst this
      show (0 : Int) = 0 - (e : Int)
      rw [z.1]
      rfl
    · obtain ⟨o, _, rfl⟩ := Option.map_eq_some_iff.mp hr
      rfl
end Oat
namespace Oa
open PySem PySem.Spec PyProof.Rows L2 Oat
theorem noDict_nats : ∀ cs : List Nat, noDictAll (cs.map fun (n : Nat) => .int (n : Int)) = true
  | [] => by simp [noDictAll]
  | c :: cs => by simp only [List.map_cons, noDictAll, noDict, noDict_nats cs, Bool.and_self]
theorem noDict_pairs : ∀ xs : List (Int × Int), noDictAll (xs.map pairD) = true
  | [] => by simp [noDictAll]
  | c :: cs => by simp only [List.map_cons, noDictAll, pairD, noDict, noDict_pairs cs, Bool.and_self]
theorem canLay_nats : ∀ cs : List Nat, PyData.canLayAll0 (cs.map fun (n : Nat) => .int (n : Int)) = true
  | [] => by simp [PyData.canLayAll0]
  | c :: cs => by simp only [List.map_cons, PyData.canLayAll0, PyData.canLay0, canLay_nats cs, Bool.and_self]
theorem canLay_pairs : ∀ xs : List (Int × Int), PyData.canLayAll0 (xs.map pairD) = true
  | [] => by simp [PyData.canLayAll0]
  | c :: cs => by simp only [List.map_cons, PyData.canLayAll0, pairD, PyData.canLay0, canLay_pairs cs, Bool.and_self]
theorem depth_pairs : ∀ xs : List (Int × Int), PyData.depthAll (xs.map pairD) ≤ 3
  | [] => by simp [PyData.depthAll]
  | c :: cs => by
    have := depth_pairs cs
    simp only [List.map_cons, PyData.depthAll, pairD, PyData.depth]
    omega
theorem shaped_nats (cs : List Nat) : SeqAt.shaped (natsD cs) = true := by
  have h1 := canLay_nats cs
  have h2 := depth_ints cs
  unfold SeqAt.shaped natsD
  refine Bool.and_eq_true_iff.mpr ⟨by simp only [PyData.canLay0, h1], decide_eq_true ?_⟩
  simp only [PyData.depth]
  omega
theorem eqv_nats (xs ys : List Nat) : PyData.eqv (natsD xs) (natsD ys) = decide (xs = ys) := by
  unfold natsD
  simp only [PyData.eqv]
  exact eqvAll_ints xs ys
theorem shaped_told (cs : List Nat) (ts : List (Int × Int)) : SeqAt.shaped (.list [natsD cs, pairsD ts]) = true := by
  have h1 := canLay_nats cs
  have h2 := depth_ints cs
  have h3 := canLay_pairs ts
  have h4 := depth_pairs ts
  unfold SeqAt.shaped natsD pairsD
  refine Bool.and_eq_true_iff.mpr ⟨by simp only [PyData.canLay0, PyData.canLayAll0, h1, h3, Bool.and_self], decide_eq_true ?_⟩
  simp only [PyData.depth, PyData.depthAll]
  omega
theorem eqv_told (cs : List Nat) (ts : List (Int × Int)) : PyData.eqv (.list [natsD cs, pairsD ts]) (.list [natsD cs, pairsD ts]) = true := by
  refine eqv_refl _ ?_
  have h1 := noDict_nats cs
  have h3 := noDict_pairs ts
  simp only [noDict, noDictAll, natsD, pairsD, h1, h3, Bool.and_self]
section
variable {P : Program} {w : World} {K : PySem.W.Frag} {mg : Str → Option Value} {base : Heap}
theorem if_no {t : TT} {tu tr : TS} {D : Ends} {σ : L2.St} {H : Hp} (P : Hp → Prop) (h : ∀ Q : Bool → Hp → Prop, (∀ H', P H' → Q false H') → t σ H Q) (h2 : ∀ H', P H' → tr D σ H') : tSeq (tIfS t tu tNext) tr D σ H :=
  h _ fun H' p => iteF (h2 H' p)
theorem decI (k : Nat) : decide (V.int ((k : Nat) : Int) = V.int 0) = decide (k = 0) := decide_eq_decide.mpr ⟨fun h => by injection h with h; omega, fun h => by rw [h]; rfl⟩
theorem asg_any {te : TE} {g : TG} {tr : TS} {D : Ends} {σ : L2.St} {H : Hp} (P : V → Hp → Prop) (h : ∀ Q : VK, (∀ v H', P v H' → Q v H') → te σ H Q) (h2 : ∀ v H', P v H' → g v σ H' (tr D)) : tSeq (tAsg te g) tr D σ H := h _ fun v H' p => h2 v H' p
theorem any_all {α : Type} (l : List α) (f : α → Bool) : (!l.any f) = l.all fun x => !f x := by
  rw [List.not_any_eq_all_not]
def sp_law (K : PySem.W.Frag) : Sp := fun vs H Q _ => ∃ (a : Addr) (ns : List Int), vs = [.ref a] ∧ SqL K H a (ns.map V.int) ∧ ∀ H', Q (.bl true) H'
theorem dpAll_snoc {H : Hp} : ∀ {vs : List V} {ds : List PyData} {v : V} {d : PyData}, DpAll K H vs ds → Dp K H v d → DpAll K H (vs ++ [v]) (ds ++ [d])
  | _, _, _, _, .nil, h => .cons h .nil
  | _, _, _, _, .cons a b, h => .cons a (dpAll_snoc b h)
theorem scal_oi (o : Option Int) : scal (oiV o) (oiV o) = true := by cases o <;> rfl
theorem okF {x : Str} {st : Stmt} {N ps : List Str} {k : Nat} {sp : Sp} {f : Addr} {fd : FuncData} (F : FunD K x x (defArgs st) (defBody st) (defScope st) [] [] f fd) (S : FnScope N ps (defScope st)) (len : ∀ vs H Q E, sp vs H Q E → vs.length = ps.length)
    (hbody : ∀ (cdv : Value) (A : Around) (outer : List Env) (s : Shared) (H : Hp) (vs : List V) (Q : VK) (E : XK), Room k (A.deeper (envOfC x (defScope st) s.heap.objs.size f cdv)) → sp vs H Q E →
      ∃ t, PSs (cxOf CX0 P w K mg base N x (defScope st) f cdv A outer s H E).nox (defBody st) t ∧ t { nx := fun _ H' => Q .non H', rt := Q } (start N vs) H) : FnOk P w K mg base CX0 (k + 1) f fd ps sp := by
  refine F.ok S len fun cdv A outer s H vs Q E hr h => ?_
  obtain ⟨t, h1, h2⟩ := hbody cdv A outer s H vs Q E hr h
  exact ⟨t, h1.nox, h2⟩
end
end Oa
namespace Oat
/-! ### the least sum over all partings -/
theorem rlt_le {a b : Int × List Nat} (h : rlt a b = true) : a.1 ≤ b.1 := by
  unfold rlt at h
  split at h
  · rename_i e; omega
  · have := of_decide_eq_true h; omega
theorem rlt_no {a b : Int × List Nat} (h : ¬ rlt a b = true) : b.1 ≤ a.1 := by
  unfold rlt at h
  split at h
  · rename_i e; omega
  · rename_i e
    have : ¬ a.1 < b.1 := fun z => h (decide_eq_true z)
    omega
theorem rmin_le (a b : Int × List Nat) : (rmin a b).1 ≤ a.1 ∧ (rmin a b).1 ≤ b.1 := by
  unfold rmin
  split
  · rename_i h; exact ⟨rlt_le h, Int.le_refl _⟩
  · rename_i h; exact ⟨Int.le_refl _, rlt_no h⟩
theorem dget_dput {α : Type} {a : α} : ∀ (F : List (Nat × α)) (k j : Nat), dget (dput F k a) j = if j = k then some a else dget F j
  | [], k, j => by
    simp only [dput, dget]
    by_cases h : j = k
    · subst h; simp
    · rw [if_neg (fun z => h z.symm), if_neg h]
  | (i, b) :: F, k, j => by
    simp only [dput]
    by_cases e : i = k
    · subst e
      rw [if_pos rfl]
      simp only [dget]
      by_cases h : i = j
      · subst h; simp
      · rw [if_neg h, if_neg h, if_neg (fun z => h z.symm)]
    · rw [if_neg e]
      simp only [dget]
      by_cases h : i = j
      · subst h
        rw [if_pos rfl, if_neg e, if_pos rfl]
      · rw [if_neg h, if_neg h]
        exact dget_dput F k j
def Has (F : Fnd) (k : Nat) (v : Int) : Prop := ∃ x, dget F k = some x ∧ x.1 ≤ v
theorem has_add {left used : Nat} {u : Int × List Nat} {acc : Fnd} {s : Nat × Int} {k : Nat} {v : Int} (h : Has acc k v) : Has (addRow left used u acc s) k v := by
  unfold addRow
  split
  · obtain ⟨x, hx, hv⟩ := h
    unfold Has
    rw [dget_dput]
    by_cases e : k = used + s.1
    · rw [if_pos e]
      refine ⟨_, rfl, Int.le_trans ?_ hv⟩
      rw [← e, hx]
      exact (rmin_le _ _).1
    · rw [if_neg e]
      exact ⟨x, hx, hv⟩
  · exact h
theorem has_new {left used : Nat} {u : Int × List Nat} {acc : Fnd} {s : Nat × Int} (h : used + s.1 ≤ left) : Has (addRow left used u acc s) (used + s.1) (u.1 + s.2) := by
  unfold addRow
  rw [if_pos h]
  unfold Has
  rw [dget_dput, if_pos rfl]
  exact ⟨_, rfl, (rmin_le _ _).2⟩
theorem has_inner {left used : Nat} {u : Int × List Nat} {k : Nat} {v : Int} : ∀ (t : List (Nat × Int)) (acc : Fnd), Has acc k v → Has (t.foldl (addRow left used u) acc) k v
  | [], _, h => h
  | _ :: t, _, h => has_inner t _ (has_add h)
theorem has_inner_new {left used : Nat} {u : Int × List Nat} {s : Nat × Int} (hle : used + s.1 ≤ left) : ∀ (t : List (Nat × Int)) (acc : Fnd), s ∈ t → Has (t.foldl (addRow left used u) acc) (used + s.1) (u.1 + s.2)
  | x :: t, acc, h => by
    rcases List.mem_cons.mp h with e | e
    · subst e
      exact has_inner t _ (has_new hle)
    · exact has_inner_new hle t _ e
theorem has_mid {left : Nat} {tb : List (Nat × Int)} {k : Nat} {v : Int} : ∀ (F acc : Fnd), Has acc k v → Has (F.foldl (fun acc e => tb.foldl (addRow left e.1 e.2) acc) acc) k v
  | [], _, h => h
  | _ :: F, _, h => has_mid F _ (has_inner tb _ h)
theorem has_mid_new {left : Nat} {tb : List (Nat × Int)} {e : Nat × (Int × List Nat)} {s : Nat × Int} (hs : s ∈ tb) (hle : e.1 + s.1 ≤ left) : ∀ (F acc : Fnd), e ∈ F → Has (F.foldl (fun acc e => tb.foldl (addRow left e.1 e.2) acc) acc) (e.1 + s.1) (e.2.1 + s.2)
  | x :: F, acc, h => by
    rcases List.mem_cons.mp h with z | z
    · subst z
      exact has_mid F _ (has_inner_new hle tb _ hs)
    · exact has_mid_new hs hle F _ z
theorem has_step {left : Nat} {F : Fnd} {tb : List (Nat × Int)} {n k : Nat} {s t : Int} (h : Has F n s) (hk : (k, t) ∈ tb) (hle : n + k ≤ left) : Has (stepBest left F tb) (n + k) (s + t) := by
  obtain ⟨x, hx, hv⟩ := h
  have hm := mem_dget hx
  obtain ⟨y, hy, hv2⟩ := has_mid_new (left := left) (e := (n, x)) (s := (k, t)) hk hle F [] hm
  exact ⟨y, hy, by dsimp only at hv2; omega⟩
theorem bestF_snoc (ts : List (List (Nat × Int))) (tb : List (Nat × Int)) (left : Nat) : bestF (ts ++ [tb]) left = stepBest left (bestF ts left) tb := by
  unfold bestF
  rw [List.foldl_append]
  rfl
theorem bestF_has {left : Nat} {ts : List (List (Nat × Int))} {part : List Nat} {s : Int} {n : Nat} (h : Parts ts part s n) : n ≤ left → Has (bestF ts left) n s := by
  induction h with
  | nil => intro _; exact ⟨(0, []), rfl, Int.le_refl _⟩
  | @snoc ts part s n tb k t h hm ih =>
    intro hl
    rw [bestF_snoc]
    exact has_step (ih (by omega)) hm hl
theorem rmin_foldl_le : ∀ (r : Fnd) (e : Int × List Nat), (r.foldl (fun m x => rmin m x.2) e).1 ≤ e.1 ∧ ∀ x ∈ r, (r.foldl (fun m x => rmin m x.2) e).1 ≤ x.2.1
  | [], e => ⟨Int.le_refl _, fun _ h => by cases h⟩
  | y :: r, e => by
    rw [List.foldl_cons]
    obtain ⟨h1, h2⟩ := rmin_foldl_le r (rmin e y.2)
    have h3 := rmin_le e y.2
    refine ⟨Int.le_trans h1 h3.1, fun x hx => ?_⟩
    rcases List.mem_cons.mp hx with z | z
    · rw [z]; exact Int.le_trans h1 h3.2
    · exact h2 x z
theorem best_le {left : Nat} {ts : List (List (Nat × Int))} {part : List Nat} {s : Int} {n : Nat} (h : Parts ts part s n) (hl : n ≤ left) : ∃ b, best ts left = some b ∧ b.1 ≤ s := by
  obtain ⟨x, hx, hv⟩ := bestF_has (left := left) h hl
  have hm := mem_dget hx
  unfold best
  cases hF : bestF ts left with
  | nil => rw [hF] at hm; cases hm
  | cons e r =>
    refine ⟨_, rfl, ?_⟩
    rw [hF] at hm
    obtain ⟨h1, h2⟩ := rmin_foldl_le r e.2
    rcases List.mem_cons.mp hm with z | z
    · rw [← z] at h1 ⊢
      exact Int.le_trans h1 hv
    · exact Int.le_trans (h2 _ z) hv
/-! ### rows of a table, the other way -/
theorem dget_of_mem {α : Type} {F : List (Nat × α)} {k : Nat} {a : α} (nd : (F.map (·.1)).Nodup) (h : (k, a) ∈ F) : dget F k = some a := by
  obtain ⟨i, hi⟩ := List.getElem?_of_mem h
  exact Oa.dget_at nd hi
theorem tab_get {c : Case} (wf : WfL c.L) {p e : Nat} (hp : p ≤ c.L.length) (he : e ≤ c.left) : dget (tab c p) e = Oat.rowOf c p ((kids c.L p).map fun k => takes (tab c k)) e := by
  cases h : Oat.rowOf c p ((kids c.L p).map fun k => takes (tab c k)) e with
  | none =>
    refine dget_none fun x hx => ?_
    rw [tab_eq wf hp, tabOf_up] at hx
    intro z
    have := (rowsUp_mem hx).2
    rw [z, h] at this
    cases this
  | some r =>
    refine dget_of_mem (tab_nd wf hp) ?_
    rw [tab_eq wf hp]
    unfold tabOf
    refine List.mem_filterMap.mpr ⟨e, List.mem_range.mpr (by omega), ?_⟩
    rw [h]
    rfl
theorem mem_takes {t : Tab} {k : Nat} {v : Int} : (k, v) ∈ takes t ↔ ∃ r, (k, r) ∈ t ∧ r.tk = v := by
  unfold takes
  rw [List.mem_map]
  constructor
  · rintro ⟨x, hx, e⟩
    injection e with e1 e2
    exact ⟨x.2, by rw [← e1]; exact hx, e2⟩
  · rintro ⟨r, hr, e⟩
    exact ⟨(k, r), hr, by rw [← e]⟩
/-- the least number of a table, and that it is one of it -/
theorem least_iff {c : Case} {v : Int} : least c = some v ↔ (∃ e r, (e, r) ∈ tab c 0 ∧ r.tk = v) ∧ ∀ e r, (e, r) ∈ tab c 0 → v ≤ r.tk := by
  unfold least
  constructor
  · intro h
    obtain ⟨m, hm, rfl⟩ := Option.map_eq_some_iff.mp h
    have hne : takes (tab c 0) ≠ [] := fun z => by rw [z] at hm; cases hm
    obtain ⟨n, e, h1, h2⟩ := bestL_some hne
    rw [hm] at e
    have e := Option.some.inj e
    subst e
    obtain ⟨r, hr, hv⟩ := mem_takes.mp h1
    refine ⟨⟨m.2, r, hr, hv⟩, fun e r hr => ?_⟩
    have := plt_no.mp (h2 (e, r.tk) (mem_takes.mpr ⟨r, hr, rfl⟩))
    dsimp only at this
    omega
  · rintro ⟨⟨e, r, hr, hv⟩, h2⟩
    have h1 := mem_takes.mpr ⟨r, hr, hv⟩
    have hne : takes (tab c 0) ≠ [] := fun z => by rw [z] at h1; cases h1
    obtain ⟨n, he, h3, h4⟩ := bestL_some hne
    rw [he]
    obtain ⟨r', hr', hv'⟩ := mem_takes.mp h3
    have a := h2 _ _ hr'
    have b := plt_no.mp (h4 _ h1)
    dsimp only at b
    show some n.1 = some v
    congr 1
    omega
/-! ### room for three: nothing is out of reach -/
theorem parts_zero : ∀ (ts : List (List (Nat × Int))), (∀ tb ∈ ts, ∃ v, (0, v) ∈ tb) → ∃ part s, Parts ts part s 0 := by
  intro ts
  have : ∀ (us ts : List (List (Nat × Int))), (∃ part s, Parts ts part s 0) → (∀ tb ∈ us, ∃ v, (0, v) ∈ tb) → ∃ part s, Parts (ts ++ us) part s 0 := by
    intro us
    induction us with
    | nil => intro ts h _; rw [List.append_nil]; exact h
    | cons u us ih =>
      intro ts ⟨part, s, h⟩ hu
      obtain ⟨v, hv⟩ := hu u List.mem_cons_self
      have := ih (ts ++ [u]) ⟨_, _, .snoc h hv⟩ fun tb htb => hu tb (List.mem_cons_of_mem _ htb)
      rw [List.append_assoc] at this
      exact this
  intro h
  exact this ts [] ⟨_, _, .nil⟩ h
theorem tab_zero {c : Case} (wf : WfL c.L) (h3 : 3 ≤ c.room) : ∀ (n p : Nat), c.L.length < n + p → p ≤ c.L.length → ∃ r, (0, r) ∈ tab c p
  | 0, p, h1, h2 => by omega
  | n + 1, p, h1, h2 => by
    obtain ⟨part, s, hP⟩ := parts_zero ((kids c.L p).map fun k => takes (tab c k)) fun tb htb => by
      obtain ⟨k, hk, rfl⟩ := List.mem_map.mp htb
      have hk2 := kids_gt wf hk
      obtain ⟨r, hr⟩ := tab_zero wf h3 n k (by omega) (by omega)
      exact ⟨r.tk, mem_takes.mpr ⟨r, hr, rfl⟩⟩
    obtain ⟨b, hb, _⟩ := best_le (left := 0) hP (Nat.le_refl _)
    have hg := tab_get (c := c) wf h2 (Nat.zero_le c.left)
    have hs : ∃ r, Oat.rowOf c p ((kids c.L p).map fun k => takes (tab c k)) 0 = some r := by
      unfold Oat.rowOf needOf
      rw [hb]
      show ∃ r, takenOf c p (b.1 + wantN c.W p, b.2) 0 = some r
      unfold takenOf
      split
      · exact ⟨_, rfl⟩
      · split
        · exact ⟨_, rfl⟩
        · unfold outF
          split
          · exact ⟨_, rfl⟩
          · rw [if_neg (by omega)]
            exact ⟨_, rfl⟩
    obtain ⟨r, hr⟩ := hs
    rw [hr] at hg
    exact ⟨r, mem_dget hg⟩
theorem least_room3 {c : Case} (wf : WfL c.L) (h3 : 3 ≤ c.room) : least c ≠ none := by
  intro h
  unfold least at h
  rw [Option.map_eq_none_iff, bestL_none] at h
  obtain ⟨r, hr⟩ := tab_zero wf h3 (c.L.length + 1) 0 (by omega) (Nat.zero_le _)
  have := mem_takes.mpr ⟨r, hr, rfl⟩
  rw [h] at this
  cases this
end Oat
namespace Oat
open PySem PyProof.Rows L2
/-! ### going out: the least count that is enough -/
theorem outF_spec {room e : Nat} {need o : Int} (hr : 2 ≤ room) (h : outF room need e = some o) : ((max e 1 : Nat) : Int) ≤ o ∧ need ≤ o * ((room : Int) - 2) + e ∧ ∀ o2 : Int, ((max e 1 : Nat) : Int) ≤ o2 → need ≤ o2 * ((room : Int) - 2) + e → o ≤ o2 := by
  have hpos := outF_pos hr h
  have hm : ((max e 1 : Nat) : Int) ≤ o := by omega
  unfold outF at h
  split at h
  · rename_i c
    have h := Option.some.inj h
    subst h
    exact ⟨Int.le_refl _, c, fun o2 h2 _ => h2⟩
  · rename_i c
    split at h
    · cases h
    · rename_i c2
      have h := Option.some.inj h
      have hp : (0 : Int) < (room : Int) - 2 := by omega
      have hne : (room : Int) - 2 ≠ 0 := by omega
      have h1 := Int.ediv_mul_le ((e : Int) - need) hne
      have ho : o = -(((e : Int) - need) / ((room : Int) - 2)) := h.symm
      have h2 : o * ((room : Int) - 2) = -((((e : Int) - need) / ((room : Int) - 2)) * ((room : Int) - 2)) := by rw [ho, Int.neg_mul]
      refine ⟨hm, by omega, fun o2 _ hn => ?_⟩
      have h3 : (-o2) * ((room : Int) - 2) ≤ (e : Int) - need := by rw [Int.neg_mul]; omega
      have h4 := (Int.le_ediv_iff_mul_le hp).mpr h3
      omega
theorem outF_ex {room e : Nat} {need o2 : Int} (hr : 2 ≤ room) (h1 : ((max e 1 : Nat) : Int) ≤ o2) (h2 : need ≤ o2 * ((room : Int) - 2) + e) : ∃ o, outF room need e = some o ∧ o ≤ o2 := by
  cases h : outF room need e with
  | some o => exact ⟨o, rfl, (outF_spec hr h).2.2 o2 h1 h2⟩
  | none =>
    unfold outF at h
    split at h
    · cases h
    · rename_i c
      split at h
      · rename_i c2
        subst c2
        exfalso
        apply c
        have e1 : ((2 : Nat) : Int) - 2 = 0 := rfl
        rw [e1, Int.mul_zero] at h2 ⊢
        exact h2
      · cases h
/-! ### tables beside tables -/
def TLe (t t' : List (Nat × Int)) : Prop := ∀ k v', (k, v') ∈ t' → ∃ v, (k, v) ∈ t ∧ v ≤ v'
theorem paired_snoc_inv {α β : Type} {R : α → β → Prop} : ∀ {xs : List α} {ys : List β} {y : β}, Paired R xs (ys ++ [y]) → ∃ xs' x, xs = xs' ++ [x] ∧ Paired R xs' ys ∧ R x y
  | _, [], y, .cons a .nil => ⟨[], _, rfl, .nil, a⟩
  | _, z :: ys, y, .cons a b => by
    obtain ⟨xs', x, e, h1, h2⟩ := paired_snoc_inv b
    exact ⟨_ :: xs', x, by rw [e]; rfl, .cons a h1, h2⟩
theorem parts_mono {ts' : List (List (Nat × Int))} {part : List Nat} {s' : Int} {n : Nat} (h : Parts ts' part s' n) : ∀ {ts : List (List (Nat × Int))}, Paired TLe ts ts' → ∃ s, Parts ts part s n ∧ s ≤ s' := by
  induction h with
  | nil => intro ts hp; cases hp; exact ⟨0, .nil, Int.le_refl _⟩
  | @snoc ts' part s n tb k t h hm ih =>
    intro ts hp
    obtain ⟨us, u, rfl, h1, h2⟩ := paired_snoc_inv hp
    obtain ⟨s1, hs1, hle⟩ := ih h1
    obtain ⟨v, hv, hvle⟩ := h2 k t hm
    exact ⟨s1 + v, .snoc hs1 hv, by omega⟩
theorem best_mono {ts ts' : List (List (Nat × Int))} {e : Nat} {b' : Int × List Nat} (hp : Paired TLe ts ts') (h : best ts' e = some b') : ∃ b, best ts e = some b ∧ b.1 ≤ b'.1 := by
  obtain ⟨n, hn, hP⟩ := best_parts h
  obtain ⟨s, hs, hle⟩ := parts_mono hP hp
  obtain ⟨b, hb, hb2⟩ := best_le hs hn
  exact ⟨b, hb, by omega⟩
theorem paired_maps {α β γ : Type} {R : β → γ → Prop} {f : α → β} {g : α → γ} : ∀ (l : List α), (∀ x ∈ l, R (f x) (g x)) → Paired R (l.map f) (l.map g)
  | [], _ => .nil
  | x :: l, h => .cons (h x List.mem_cons_self) (paired_maps l fun y hy => h y (List.mem_cons_of_mem _ hy))
/-! ### rows: what is taken -/
theorem mem_tab {c : Case} (wf : WfL c.L) {p e : Nat} {r : TRow} (hp : p ≤ c.L.length) : (e, r) ∈ tab c p ↔ e ≤ c.left ∧ Oat.rowOf c p ((kids c.L p).map fun k => takes (tab c k)) e = some r := by
  constructor
  · intro h
    exact tab_row wf hp (dget_of_mem (tab_nd wf hp) h)
  · rintro ⟨h1, h2⟩
    exact mem_dget ((tab_get wf hp h1).trans h2)
theorem row_some {c : Case} {p e : Nat} {ts : List (List (Nat × Int))} {r : TRow} (h : Oat.rowOf c p ts e = some r) : ∃ b, best ts e = some b ∧ takenOf c p (b.1 + wantN c.W p, b.2) e = some r := by
  unfold Oat.rowOf needOf at h
  cases hb : best ts e with
  | none => rw [hb] at h; cases h
  | some b => rw [hb] at h; exact ⟨b, rfl, h⟩
theorem row_of {c : Case} {p e : Nat} {ts : List (List (Nat × Int))} {b : Int × List Nat} (h : best ts e = some b) : Oat.rowOf c p ts e = takenOf c p (b.1 + wantN c.W p, b.2) e := by
  unfold Oat.rowOf needOf
  rw [h]
  rfl
theorem wantN_nn (W : List (Option Nat)) (p : Nat) : 0 ≤ wantN W p := by
  unfold wantN
  split <;> omega
theorem parts_nn {ts : List (List (Nat × Int))} {part : List Nat} {s : Int} {n : Nat} (h : Parts ts part s n) : (∀ tb ∈ ts, ∀ k v, (k, v) ∈ tb → 0 ≤ v) → 0 ≤ s := by
  induction h with
  | nil => intro _; exact Int.le_refl _
  | @snoc ts part s n tb k t h hm ih =>
    intro hn
    have h1 := ih fun tb' ht => hn tb' (List.mem_append_left _ ht)
    have h2 := hn tb (List.mem_append_right _ List.mem_cons_self) k t hm
    omega
theorem taken_nn {c : Case} {p e : Nat} {n : Int × List Nat} {r : TRow} (h2 : 2 ≤ c.room) (hn : 0 ≤ n.1) (h : takenOf c p n e = some r) : 0 ≤ r.tk := by
  unfold takenOf at h
  split at h
  · rw [← Option.some.inj h]; exact hn
  · split at h
    · rw [← Option.some.inj h]; exact Int.le_refl _
    · obtain ⟨o, ho, rfl⟩ := Option.map_eq_some_iff.mp h
      have := outF_pos h2 ho
      show 0 ≤ n.1 + 2 * o - (e : Int)
      omega
theorem tab_nn {c : Case} (wf : WfL c.L) (h2 : 2 ≤ c.room) : ∀ (n p : Nat), c.L.length < n + p → p ≤ c.L.length → ∀ k v, (k, v) ∈ takes (tab c p) → 0 ≤ v
  | 0, p, h, hp => by omega
  | n + 1, p, h, hp => by
    intro k v hv
    obtain ⟨r, hr, rfl⟩ := mem_takes.mp hv
    obtain ⟨b, hb, ht⟩ := row_some ((mem_tab wf hp).mp hr).2
    obtain ⟨m, _, hP⟩ := best_parts hb
    have h0 := parts_nn hP fun tb htb => by
      obtain ⟨q, hq, rfl⟩ := List.mem_map.mp htb
      have hq2 := kids_gt wf hq
      exact tab_nn wf h2 n q (by omega) (by omega)
    have hw := wantN_nn c.W p
    exact taken_nn h2 (by show 0 ≤ b.1 + wantN c.W p; omega) ht
/-! ### less wanted, more room, more carts that may be left -/
structure Below (c c' : Case) : Prop where
  l : c.L = c'.L
  lf : c'.left ≤ c.left
  rm : c'.room ≤ c.room
  r2 : 2 ≤ c'.room
  wn : ∀ p, wantN c.W p ≤ wantN c'.W p
  ws : ∀ p, (c.W.getD p none).isSome = true → (c'.W.getD p none).isSome = true
theorem wantedF_mono {L : List Nat} {W W' : List (Option Nat)} (h : ∀ p, (W.getD p none).isSome = true → (W'.getD p none).isSome = true) : ∀ (f p : Nat), wantedF L W f p = true → wantedF L W' f p = true
  | 0, p, hw => h p hw
  | f + 1, p, hw => by
    unfold wantedF at hw ⊢
    rcases Bool.or_eq_true_iff.mp hw with z | z
    · exact Bool.or_eq_true_iff.mpr (.inl (h p z))
    · obtain ⟨k, hk, hz⟩ := List.any_eq_true.mp z
      exact Bool.or_eq_true_iff.mpr (.inr (List.any_eq_true.mpr ⟨k, hk, wantedF_mono h f k hz⟩))
theorem wanted_mono {L : List Nat} {W W' : List (Option Nat)} (h : ∀ p, (W.getD p none).isSome = true → (W'.getD p none).isSome = true) {p : Nat} (hw : wanted L W p = true) : wanted L W' p = true := wantedF_mono h _ p hw
theorem tab_mono {c c' : Case} (B : Below c c') (wf : WfL c'.L) : ∀ (n p : Nat), c'.L.length < n + p → p ≤ c'.L.length → TLe (takes (tab c p)) (takes (tab c' p))
  | 0, p, h, hp => by omega
  | n + 1, p, h, hp => by
    have wfc : WfL c.L := by rw [B.l]; exact wf
    have hpc : p ≤ c.L.length := by rw [B.l]; exact hp
    intro e v' hv'
    have hnn := tab_nn wf B.r2 (c'.L.length + 1) p (by omega) hp e v' hv'
    obtain ⟨r', hr', rfl⟩ := mem_takes.mp hv'
    obtain ⟨he, hrow⟩ := (mem_tab wf hp).mp hr'
    obtain ⟨b', hb', ht'⟩ := row_some hrow
    have hpair : Paired TLe ((kids c.L p).map fun k => takes (tab c k)) ((kids c'.L p).map fun k => takes (tab c' k)) := by
      rw [B.l]
      refine paired_maps _ fun k hk => ?_
      have hk2 := kids_gt wf hk
      exact tab_mono B wf n k (by omega) (by omega)
    obtain ⟨b, hb, hle⟩ := best_mono hpair hb'
    have hw := B.wn p
    have key : ∃ r, takenOf c p (b.1 + wantN c.W p, b.2) e = some r ∧ r.tk ≤ r'.tk := by
      unfold takenOf at ht' ⊢
      by_cases h0 : p = 0
      · rw [if_pos h0] at ht' ⊢
        rw [← Option.some.inj ht']
        exact ⟨_, rfl, by show b.1 + wantN c.W p ≤ b'.1 + wantN c'.W p; omega⟩
      · rw [if_neg h0] at ht' ⊢
        by_cases hc : e = 0 ∧ wanted c.L c.W p = false
        · rw [if_pos hc]
          exact ⟨_, rfl, hnn⟩
        · rw [if_neg hc]
          have hc' : ¬ (e = 0 ∧ wanted c'.L c'.W p = false) := fun z => hc ⟨z.1, by
            cases hx : wanted c.L c.W p with
            | false => rfl
            | true =>
              have := wanted_mono B.ws (L := c.L) hx
              rw [B.l, z.2] at this
              cases this⟩
          rw [if_neg hc'] at ht'
          obtain ⟨o', ho', rfl⟩ := Option.map_eq_some_iff.mp ht'
          obtain ⟨g1, g2, _⟩ := outF_spec B.r2 ho'
          have g2 : b'.1 + wantN c'.W p ≤ o' * ((c'.room : Int) - 2) + e := g2
          have hrm := B.rm
          have hr2 := B.r2
          have hmul : o' * ((c'.room : Int) - 2) ≤ o' * ((c.room : Int) - 2) := Int.mul_le_mul_of_nonneg_left (by omega) (by omega)
          obtain ⟨o, ho, hoo⟩ := outF_ex (room := c.room) (e := e) (need := b.1 + wantN c.W p) (o2 := o') (by omega) g1 (by omega)
          refine ⟨_, by rw [ho]; rfl, ?_⟩
          show b.1 + wantN c.W p + 2 * o - e ≤ b'.1 + wantN c'.W p + 2 * o' - e
          omega
    obtain ⟨r, hr, hrle⟩ := key
    refine ⟨r.tk, mem_takes.mpr ⟨r, (mem_tab wfc hpc).mpr ⟨by have := B.lf; omega, (row_of hb).trans hr⟩, rfl⟩, hrle⟩
theorem least_mono {c c' : Case} (B : Below c c') (wf : WfL c'.L) {x' : Int} (h : least c' = some x') : ∃ x, least c = some x ∧ x ≤ x' := by
  obtain ⟨⟨e, r', hr', rfl⟩, _⟩ := least_iff.mp h
  obtain ⟨v, hv, hle⟩ := tab_mono B wf (c'.L.length + 1) 0 (by omega) (Nat.zero_le _) e r'.tk (mem_takes.mpr ⟨r', hr', rfl⟩)
  obtain ⟨r, hr, rfl⟩ := mem_takes.mp hv
  cases hl : least c with
  | none =>
    unfold least at hl
    rw [Option.map_eq_none_iff, bestL_none] at hl
    rw [hl] at hv
    cases hv
  | some x => exact ⟨x, rfl, Int.le_trans ((least_iff.mp hl).2 _ _ hr) hle⟩
/-! ### no cart left: wants apart need no less than together -/
theorem parts_zero_keys {ts : List (List (Nat × Int))} {part : List Nat} {s : Int} {n : Nat} (h : Parts ts part s n) : n = 0 → (∀ tb ∈ ts, ∀ v, (0, v) ∈ tb → v = 0) → s = 0 := by
  induction h with
  | nil => intro _ _; rfl
  | @snoc ts part s n tb k t h hm ih =>
    intro h0 hz
    have hk : k = 0 := by omega
    subst hk
    have h1 := ih (by omega) fun tb' ht => hz tb' (List.mem_append_left _ ht)
    have h2 := hz tb (List.mem_append_right _ List.mem_cons_self) t hm
    omega
theorem parts_add {ts1 : List (List (Nat × Int))} {p1 : List Nat} {s1 : Int} {n1 : Nat} (h : Parts ts1 p1 s1 n1) : n1 = 0 → ∀ {ts2 ts : List (List (Nat × Int))} {p2 : List Nat} {s2 : Int}, Parts ts2 p2 s2 0 → ts1.length = ts2.length → ts.length = ts1.length →
    (∀ (i : Nat) (t1 t2 t : List (Nat × Int)) (v1 v2 : Int), ts1[i]? = some t1 → ts2[i]? = some t2 → ts[i]? = some t → (0, v1) ∈ t1 → (0, v2) ∈ t2 → ∃ v, (0, v) ∈ t ∧ v ≤ v1 + v2) → ∃ part s, Parts ts part s 0 ∧ s ≤ s1 + s2 := by
  induction h with
  | nil =>
    intro _ ts2 ts p2 s2 h2 hl hl2 _
    have e2 : ts2 = [] := List.length_eq_zero_iff.mp hl.symm
    have e : ts = [] := List.length_eq_zero_iff.mp hl2
    subst e2
    subst e
    have : s2 = 0 := parts_zero_keys h2 rfl (fun tb ht => by cases ht)
    exact ⟨_, _, .nil, by omega⟩
  | @snoc ts1 p1 s1 n1 tb1 k1 t1 h1 hm1 ih =>
    intro h0 ts2 ts p2 s2 h2 hl hl2 hadd
    have hk1 : k1 = 0 := by omega
    subst hk1
    have hn1 : n1 = 0 := by omega
    generalize hz : (0 : Nat) = z at h2
    cases h2 with
    | nil => simp at hl
    | @snoc us2 q2 r2 m2 tb2 k2 t2 g2 hm2 =>
      have hk2 : k2 = 0 := by omega
      subst hk2
      have hm20 : m2 = 0 := by omega
      subst hm20
      have hlen : ts1.length = us2.length := by simpa using hl
      obtain ⟨us, u, rfl⟩ : ∃ us u, ts = us ++ [u] := by
        have hne : ts ≠ [] := fun z => by rw [z] at hl2; simp at hl2
        exact ⟨ts.dropLast, ts.getLast hne, (List.dropLast_concat_getLast hne).symm⟩
      have hlen2 : us.length = ts1.length := by simpa using hl2
      obtain ⟨part, s, hP, hs⟩ := ih hn1 (ts := us) g2 hlen hlen2 fun i a b c v1 v2 ha hb hc m1 m2 => by
        have hi : i < ts1.length := (List.getElem?_eq_some_iff.mp ha).1
        exact hadd i a b c v1 v2 (by rw [List.getElem?_append_left hi]; exact ha) (by rw [List.getElem?_append_left (by omega)]; exact hb) (by rw [List.getElem?_append_left (by omega)]; exact hc) m1 m2
      obtain ⟨v, hv, hvle⟩ := hadd ts1.length tb1 tb2 u t1 t2 (by rw [List.getElem?_append_right (Nat.le_refl _), Nat.sub_self]; rfl) (by rw [hlen, List.getElem?_append_right (Nat.le_refl _), Nat.sub_self]; rfl) (by rw [← hlen2, List.getElem?_append_right (Nat.le_refl _), Nat.sub_self]; rfl) hm1 hm2
      exact ⟨_, _, .snoc hP hv, by omega⟩
end Oat
namespace Oat
open PySem PyProof.Rows L2
/-! ### wants apart, no cart left -/
structure Apart (c1 c2 c : Case) : Prop where
  l1 : c1.L = c.L
  l2 : c2.L = c.L
  r1 : c1.room = c.room
  r2 : c2.room = c.room
  rr : 2 ≤ c.room
  wn : ∀ p, wantN c.W p ≤ wantN c1.W p + wantN c2.W p
  ws : ∀ p, (c.W.getD p none).isSome = true → (c1.W.getD p none).isSome = true ∨ (c2.W.getD p none).isSome = true
theorem wantedF_apart {L : List Nat} {W W1 W2 : List (Option Nat)} (h : ∀ p, (W.getD p none).isSome = true → (W1.getD p none).isSome = true ∨ (W2.getD p none).isSome = true) : ∀ (f p : Nat), wantedF L W f p = true → wantedF L W1 f p = true ∨ wantedF L W2 f p = true
  | 0, p, hw => h p hw
  | f + 1, p, hw => by
    unfold wantedF at hw ⊢
    rcases Bool.or_eq_true_iff.mp hw with z | z
    · rcases h p z with y | y
      · exact .inl (Bool.or_eq_true_iff.mpr (.inl y))
      · exact .inr (Bool.or_eq_true_iff.mpr (.inl y))
    · obtain ⟨k, hk, hz⟩ := List.any_eq_true.mp z
      rcases wantedF_apart h f k hz with y | y
      · exact .inl (Bool.or_eq_true_iff.mpr (.inr (List.any_eq_true.mpr ⟨k, hk, y⟩)))
      · exact .inr (Bool.or_eq_true_iff.mpr (.inr (List.any_eq_true.mpr ⟨k, hk, y⟩)))
theorem not_wanted {L : List Nat} {W : List (Option Nat)} (wf : WfL L) {p : Nat} (hp : p ≤ L.length) (h : wanted L W p = false) : wantN W p = 0 ∧ ∀ k ∈ kids L p, wanted L W k = false := by
  rw [wanted_eq wf hp] at h
  obtain ⟨h1, h2⟩ := Bool.or_eq_false_iff.mp h
  refine ⟨?_, fun k hk => ?_⟩
  · unfold wantN
    cases e : W.getD p none with
    | none => rfl
    | some u => rw [e] at h1; cases h1
  · have := List.any_eq_false.mp h2 k hk
    simpa using this
/-- nothing wanted there and behind, no cart left: nothing is taken, nothing needed -/
theorem zero_row {c : Case} (wf : WfL c.L) {p : Nat} (hp : p ≤ c.L.length) (h0 : p ≠ 0) (h : wanted c.L c.W p = false) {v : Int} (hv : (0, v) ∈ takes (tab c p)) : v = 0 := by
  obtain ⟨r, hr, rfl⟩ := mem_takes.mp hv
  obtain ⟨b, hb, ht⟩ := row_some ((mem_tab wf hp).mp hr).2
  unfold takenOf at ht
  rw [if_neg h0, if_pos ⟨rfl, h⟩] at ht
  rw [← Option.some.inj ht]
theorem zero_need {c : Case} (wf : WfL c.L) {p : Nat} (hp : p ≤ c.L.length) (h : wanted c.L c.W p = false) {b : Int × List Nat} (hb : best ((kids c.L p).map fun k => takes (tab c k)) 0 = some b) : b.1 + wantN c.W p = 0 := by
  obtain ⟨h1, h2⟩ := not_wanted wf hp h
  obtain ⟨n, hn, hP⟩ := best_parts hb
  have : b.1 = 0 := parts_zero_keys hP (by omega) fun tb htb v hv => by
    obtain ⟨q, hq, rfl⟩ := List.mem_map.mp htb
    have hq2 := kids_gt wf hq
    exact zero_row wf hq2.2 (by omega) (h2 q hq) hv
  omega
theorem tab_apart {c1 c2 c : Case} (A : Apart c1 c2 c) (wf : WfL c.L) : ∀ (n p : Nat), c.L.length < n + p → p ≤ c.L.length → ∀ v1 v2, (0, v1) ∈ takes (tab c1 p) → (0, v2) ∈ takes (tab c2 p) → ∃ v, (0, v) ∈ takes (tab c p) ∧ v ≤ v1 + v2
  | 0, p, h, hp => by omega
  | n + 1, p, h, hp => by
    have wf1 : WfL c1.L := by rw [A.l1]; exact wf
    have wf2 : WfL c2.L := by rw [A.l2]; exact wf
    have hp1 : p ≤ c1.L.length := by rw [A.l1]; exact hp
    have hp2 : p ≤ c2.L.length := by rw [A.l2]; exact hp
    intro v1 v2 hv1 hv2
    have n1 := tab_nn wf1 (by rw [A.r1]; exact A.rr) (c1.L.length + 1) p (by omega) hp1 0 v1 hv1
    have n2 := tab_nn wf2 (by rw [A.r2]; exact A.rr) (c2.L.length + 1) p (by omega) hp2 0 v2 hv2
    obtain ⟨r1, hr1, rfl⟩ := mem_takes.mp hv1
    obtain ⟨r2, hr2, rfl⟩ := mem_takes.mp hv2
    obtain ⟨b1, hb1, ht1⟩ := row_some ((mem_tab wf1 hp1).mp hr1).2
    obtain ⟨b2, hb2, ht2⟩ := row_some ((mem_tab wf2 hp2).mp hr2).2
    obtain ⟨m1, hm1, hP1⟩ := best_parts hb1
    obtain ⟨m2, hm2, hP2⟩ := best_parts hb2
    have e1 : m1 = 0 := by omega
    have e2 : m2 = 0 := by omega
    subst e1
    subst e2
    obtain ⟨part, s, hP, hs⟩ := parts_add hP1 rfl (ts := (kids c.L p).map fun k => takes (tab c k)) hP2 (by simp [A.l1, A.l2]) (by simp [A.l1]) fun i t1 t2 t w1 w2 g1 g2 g m1 m2 => by
      rw [A.l1, List.getElem?_map] at g1
      rw [A.l2, List.getElem?_map] at g2
      rw [List.getElem?_map] at g
      obtain ⟨q, hq, rfl⟩ := Option.map_eq_some_iff.mp g
      rw [hq] at g1 g2
      have g1 := Option.some.inj g1
      have g2 := Option.some.inj g2
      subst g1
      subst g2
      have hq2 := kids_gt wf (List.mem_of_getElem? hq)
      exact tab_apart A wf n q (by omega) (by omega) w1 w2 m1 m2
    obtain ⟨b, hb, hbs⟩ := best_le (left := 0) hP (Nat.le_refl _)
    have hw := A.wn p
    have key : ∃ r, takenOf c p (b.1 + wantN c.W p, b.2) 0 = some r ∧ r.tk ≤ r1.tk + r2.tk := by
      unfold takenOf at ht1 ht2 ⊢
      by_cases h0 : p = 0
      · rw [if_pos h0] at ht1 ht2 ⊢
        rw [← Option.some.inj ht1, ← Option.some.inj ht2]
        exact ⟨_, rfl, by show b.1 + wantN c.W p ≤ b1.1 + wantN c1.W p + (b2.1 + wantN c2.W p); omega⟩
      · rw [if_neg h0] at ht1 ht2 ⊢
        by_cases hc : (0 : Nat) = 0 ∧ wanted c.L c.W p = false
        · rw [if_pos hc]
          exact ⟨_, rfl, by show (0 : Int) ≤ _; omega⟩
        · rw [if_neg hc]
          have hcw : wanted c.L c.W p = true := by
            cases hx : wanted c.L c.W p with
            | true => rfl
            | false => exact absurd ⟨rfl, hx⟩ hc
          have hrr := A.rr
          have out : ∀ (o2 : Int), 1 ≤ o2 → b.1 + wantN c.W p ≤ o2 * ((c.room : Int) - 2) → ∃ o, outF c.room (b.1 + wantN c.W p) 0 = some o ∧ o ≤ o2 := fun o2 g1 g2 => outF_ex hrr (by simpa using g1) (by simpa using g2)
          have fin : ∀ o2 : Int, 1 ≤ o2 → b.1 + wantN c.W p ≤ o2 * ((c.room : Int) - 2) → b.1 + wantN c.W p + 2 * o2 ≤ r1.tk + r2.tk → ∃ r, ((outF c.room (b.1 + wantN c.W p) 0).map fun o => (⟨b.1 + wantN c.W p + 2 * o - ((0 : Nat) : Int), o, o - ((0 : Nat) : Int), b.2⟩ : TRow)) = some r ∧ r.tk ≤ r1.tk + r2.tk := fun o2 g1 g2 g3 => by
            obtain ⟨o, ho, hoo⟩ := out o2 g1 g2
            refine ⟨_, by rw [ho]; rfl, ?_⟩
            show b.1 + wantN c.W p + 2 * o - ((0 : Nat) : Int) ≤ _
            have : ((0 : Nat) : Int) = 0 := rfl
            omega
          have side : ∀ {ci : Case} {bi : Int × List Nat} {ri : TRow}, ci.L = c.L → ci.room = c.room → wanted ci.L ci.W p = true →
              (if (0 : Nat) = 0 ∧ wanted ci.L ci.W p = false then some (⟨0, 0, 0, bi.2⟩ : TRow) else (outF ci.room (bi.1 + wantN ci.W p) 0).map fun o => ⟨bi.1 + wantN ci.W p + 2 * o - ((0 : Nat) : Int), o, o - ((0 : Nat) : Int), bi.2⟩) = some ri →
              ∃ o : Int, 1 ≤ o ∧ bi.1 + wantN ci.W p ≤ o * ((c.room : Int) - 2) ∧ ri.tk = bi.1 + wantN ci.W p + 2 * o := by
            intro ci bi ri _ hrm hwi hti
            rw [if_neg (fun z => by rw [hwi] at z; cases z.2)] at hti
            obtain ⟨o, ho, rfl⟩ := Option.map_eq_some_iff.mp hti
            rw [hrm] at ho
            obtain ⟨g1, g2, _⟩ := outF_spec hrr ho
            refine ⟨o, by simpa using g1, by simpa using g2, ?_⟩
            show bi.1 + wantN ci.W p + 2 * o - ((0 : Nat) : Int) = _
            have : ((0 : Nat) : Int) = 0 := rfl
            omega
          have none_ : ∀ {ci : Case} {bi : Int × List Nat} {ri : TRow}, WfL ci.L → p ≤ ci.L.length → best ((kids ci.L p).map fun k => takes (tab ci k)) 0 = some bi → wanted ci.L ci.W p = false →
              (if (0 : Nat) = 0 ∧ wanted ci.L ci.W p = false then some (⟨0, 0, 0, bi.2⟩ : TRow) else (outF ci.room (bi.1 + wantN ci.W p) 0).map fun o => ⟨bi.1 + wantN ci.W p + 2 * o - ((0 : Nat) : Int), o, o - ((0 : Nat) : Int), bi.2⟩) = some ri →
              ri.tk = 0 ∧ bi.1 + wantN ci.W p = 0 := by
            intro ci bi ri wfi hpi hbi hwi hti
            rw [if_pos ⟨rfl, hwi⟩] at hti
            rw [← Option.some.inj hti]
            exact ⟨rfl, zero_need wfi hpi hwi hbi⟩
          cases x1 : wanted c1.L c1.W p with
          | true =>
            obtain ⟨o1, g1, g2, g3⟩ := side A.l1 A.r1 x1 ht1
            cases x2 : wanted c2.L c2.W p with
            | true =>
              obtain ⟨o2, k1, k2, k3⟩ := side A.l2 A.r2 x2 ht2
              have hmul : (o1 + o2) * ((c.room : Int) - 2) = o1 * ((c.room : Int) - 2) + o2 * ((c.room : Int) - 2) := Int.add_mul _ _ _
              exact fin (o1 + o2) (by omega) (by omega) (by omega)
            | false =>
              obtain ⟨k1, k2⟩ := none_ wf2 hp2 hb2 x2 ht2
              exact fin o1 g1 (by omega) (by omega)
          | false =>
            obtain ⟨g1, g2⟩ := none_ wf1 hp1 hb1 x1 ht1
            cases x2 : wanted c2.L c2.W p with
            | true =>
              obtain ⟨o2, k1, k2, k3⟩ := side A.l2 A.r2 x2 ht2
              exact fin o2 k1 (by omega) (by omega)
            | false =>
              exfalso
              have hF : wantedF c.L c.W c.L.length p = true := hcw
              rcases wantedF_apart A.ws _ p hF with y | y
              · have : wanted c1.L c1.W p = true := by rw [A.l1]; exact y
                rw [x1] at this
                cases this
              · have : wanted c2.L c2.W p = true := by rw [A.l2]; exact y
                rw [x2] at this
                cases this
    obtain ⟨r, hr, hle⟩ := key
    exact ⟨r.tk, mem_takes.mpr ⟨r, (mem_tab wf hp).mpr ⟨Nat.zero_le _, (row_of hb).trans hr⟩, rfl⟩, hle⟩
theorem least_apart {c1 c2 c : Case} (A : Apart c1 c2 c) (wf : WfL c.L) (z1 : c1.left = 0) (z2 : c2.left = 0) {x1 x2 : Int} (h1 : least c1 = some x1) (h2 : least c2 = some x2) : ∃ x, least c = some x ∧ x ≤ x1 + x2 := by
  obtain ⟨⟨e1, r1, hr1, rfl⟩, _⟩ := least_iff.mp h1
  obtain ⟨⟨e2, r2, hr2, rfl⟩, _⟩ := least_iff.mp h2
  have wf1 : WfL c1.L := by rw [A.l1]; exact wf
  have wf2 : WfL c2.L := by rw [A.l2]; exact wf
  have g1 := ((mem_tab wf1 (Nat.zero_le _)).mp hr1).1
  have g2 := ((mem_tab wf2 (Nat.zero_le _)).mp hr2).1
  have e1 : e1 = 0 := by omega
  have e2 : e2 = 0 := by omega
  subst e1
  subst e2
  obtain ⟨v, hv, hle⟩ := tab_apart A wf (c.L.length + 1) 0 (by omega) (Nat.zero_le _) r1.tk r2.tk (mem_takes.mpr ⟨r1, hr1, rfl⟩) (mem_takes.mpr ⟨r2, hr2, rfl⟩)
  obtain ⟨r, hr, rfl⟩ := mem_takes.mp hv
  cases hl : least c with
  | none =>
    unfold least at hl
    rw [Option.map_eq_none_iff, bestL_none] at hl
    rw [hl] at hv
    cases hv
  | some x => exact ⟨x, rfl, Int.le_trans ((least_iff.mp hl).2 _ _ hr) hle⟩
end Oat
namespace Oat
open PySem PyProof.Rows L2
/-! ### sums -/
theorem sum_snocI (l : List Int) (x : Int) : (l ++ [x]).sum = l.sum + x := by
  rw [List.sum_append]
  simp
theorem sum_snocN (l : List Nat) (x : Nat) : (l ++ [x]).sum = l.sum + x := by
  rw [List.sum_append]
  simp
theorem sum_add {α : Type} (f g : α → Int) : ∀ l : List α, (l.map fun x => f x + g x).sum = (l.map f).sum + (l.map g).sum
  | [] => rfl
  | x :: l => by
    simp only [List.map_cons, List.sum_cons, sum_add f g l]
    omega
theorem sum_pick (x : Nat) (v : Int) : ∀ m : Nat, ((List.range m).map fun p => if x = p then v else 0).sum = if x < m then v else 0
  | 0 => by simp
  | m + 1 => by
    rw [List.range_succ, List.map_append, List.map_singleton, sum_snocI, sum_pick x v m]
    by_cases h : x < m
    · rw [if_pos h, if_neg (by omega), if_pos (by omega), Int.add_zero]
    · rw [if_neg h]
      by_cases h2 : x = m
      · rw [if_pos h2, if_pos (by omega), Int.zero_add]
      · rw [if_neg h2, if_neg (by omega), Int.zero_add]
theorem kids_snoc (L : List Nat) (x p : Nat) : kids (L ++ [x]) p = kids L p ++ if x = p then [L.length + 1] else [] := by
  unfold kids
  rw [List.length_append, List.length_singleton, List.range_succ, List.filter_append, List.map_append]
  congr 1
  · congr 1
    refine List.filter_congr fun i hi => ?_
    have hi := List.mem_range.mp hi
    rw [List.getD_eq_getElem?_getD, List.getElem?_append_left hi, ← List.getD_eq_getElem?_getD]
  · have e : (L ++ [x]).getD L.length 0 = x := by
      rw [List.getD_eq_getElem?_getD, List.getElem?_append_right (Nat.le_refl _), Nat.sub_self]
      rfl
    by_cases h : x = p
    · rw [if_pos h, List.filter_cons_of_pos (by rw [e]; simpa using h)]
      rfl
    · rw [if_neg h, List.filter_cons_of_neg (by rw [e]; simpa using h)]
      rfl
theorem kids_sum (f : Nat → Int) (m : Nat) : ∀ (k : Nat) (L : List Nat), L.length = k → (∀ i, i < L.length → L.getD i 0 < m) → ((List.range m).map fun p => ((kids L p).map f).sum).sum = ((List.range L.length).map fun i => f (i + 1)).sum
  | 0, L, hl, _ => by
    have e : L = [] := List.length_eq_zero_iff.mp hl
    subst e
    have : ∀ l : List Nat, (l.map fun p => ((kids [] p).map f).sum).sum = 0 := by
      intro l
      induction l with
      | nil => rfl
      | cons a l ih => rw [List.map_cons, List.sum_cons, ih]; rfl
    rw [this]
    rfl
  | k + 1, L, hl, hm => by
    have hne : L ≠ [] := fun z => by rw [z] at hl; cases hl
    obtain ⟨L', x, rfl⟩ : ∃ L' x, L = L' ++ [x] := ⟨L.dropLast, L.getLast hne, (List.dropLast_concat_getLast hne).symm⟩
    have hl' : L'.length = k := by simpa using hl
    have ih := kids_sum f m k L' hl' fun i hi => by
      have := hm i (by rw [List.length_append]; exact Nat.lt_add_right _ hi)
      rw [List.getD_eq_getElem?_getD, List.getElem?_append_left hi, ← List.getD_eq_getElem?_getD] at this
      exact this
    have hx : x < m := by
      have := hm L'.length (by simp)
      rw [List.getD_eq_getElem?_getD, List.getElem?_append_right (Nat.le_refl _), Nat.sub_self] at this
      exact this
    have e1 : (fun p => ((kids (L' ++ [x]) p).map f).sum) = fun p => ((kids L' p).map f).sum + if x = p then f (L'.length + 1) else 0 := by
      funext p
      rw [kids_snoc, List.map_append, List.sum_append]
      congr 1
      split
      · simp
      · rfl
    rw [e1, sum_add, ih, sum_pick, if_pos hx, List.length_append, List.length_singleton, List.range_succ, List.map_append, List.map_singleton, sum_snocI]
/-! ### the told way: whose counts they are -/
theorem getD_q {cs cs' : List Nat} {q : Nat} (h : cs'[q]? = cs[q]?) : cs'.getD q 0 = cs.getD q 0 := by
  rw [List.getD_eq_getElem?_getD, List.getD_eq_getElem?_getD, h]
theorem kids_one {L : List Nat} {p i q : Nat} (h1 : q ∈ kids L p) (h2 : q ∈ kids L i) : p = i := by
  obtain ⟨a, _, ha, rfl⟩ := mem_kids.mp h1
  obtain ⟨b, _, hb, e⟩ := mem_kids.mp h2
  have : a = b := by omega
  subst this
  exact ha.symm.trans hb
def Set (c : Case) (cs : List Nat) (p : Nat) : Prop := ∃ r, dget (tab c p) (cs.getD p 0) = some r ∧ ∀ (j q : Nat), (kids c.L p)[j]? = some q → r.part[j]? = some (cs.getD q 0)
theorem set_upto {c : Case} (wf : WfL c.L) {m : Int × Nat} (h : bestL (takes (tab c 0)) = some m) : ∀ i, i ≤ c.L.length + 1 → ∀ p, p < i → Set c ((List.range i).foldl (cntStep c) ((List.replicate (c.L.length + 1) 0).set 0 m.2)) p
  | 0, _, p, hp => by omega
  | i + 1, hi, p, hp => by
    have kn := known_upto wf h i (by omega)
    have ih := set_upto wf h i (by omega)
    obtain ⟨_, r, hr1, hr2⟩ := known_step wf (show i ≤ c.L.length by omega) kn
    rw [List.range_succ, List.foldl_append]
    show Set c (cntStep c _ i) p
    rw [hr2]
    have hlen := kn.1
    generalize ((List.range i).foldl (cntStep c) ((List.replicate (c.L.length + 1) 0).set 0 m.2)) = cs at hr1 hlen ih
    obtain ⟨hpl, _⟩ := tab_part wf (show i ≤ c.L.length by omega) hr1
    have hout : ∀ q, q ∉ kids c.L i → (setKids cs (kids c.L i) r.part).getD q 0 = cs.getD q 0 := fun q hq => getD_q (setKids_out hq)
    by_cases e : p = i
    · subst e
      refine ⟨r, ?_, fun j q hq => ?_⟩
      · rw [hout p (fun z => by have := kids_gt wf z; omega)]
        exact hr1
      · have hj : j < r.part.length := by rw [hpl]; exact (List.getElem?_eq_some_iff.mp hq).1
        have hk := kids_gt wf (List.mem_of_getElem? hq)
        have := setKids_at (cs := cs) (kids_nd _ _) hq (List.getElem?_eq_getElem hj) (by omega)
        rw [List.getD_eq_getElem?_getD, this, List.getElem?_eq_getElem hj]
        rfl
    · obtain ⟨r', h1, h2⟩ := ih p (by omega)
      refine ⟨r', ?_, fun j q hq => ?_⟩
      · rw [hout p (fun z => by have := kids_gt wf z; omega)]
        exact h1
      · rw [hout q (fun z => e (kids_one (List.mem_of_getElem? hq) z))]
        exact h2 j q hq
theorem told_set {c : Case} (wf : WfL c.L) {cs : List Nat} (h : told c = some cs) : ∀ p, p ≤ c.L.length → Set c cs p := by
  unfold told at h
  obtain ⟨m, hm, rfl⟩ := Option.map_eq_some_iff.mp h
  exact fun p hp => set_upto wf hm (c.L.length + 1) (Nat.le_refl _) p (by omega)
/-! ### partings: what is summed -/
theorem parts_vals {ts : List (List (Nat × Int))} {part : List Nat} {s : Int} {n : Nat} (h : Parts ts part s n) : ∃ vs : List Int, vs.length = ts.length ∧ s = vs.sum ∧ n = part.sum ∧ ∀ (i : Nat) (tb : List (Nat × Int)) (k : Nat) (v : Int), ts[i]? = some tb → part[i]? = some k → vs[i]? = some v → (k, v) ∈ tb := by
  induction h with
  | nil => exact ⟨[], rfl, rfl, rfl, fun i tb k v h => by simp at h⟩
  | @snoc ts part s n tb k t h hm ih =>
    obtain ⟨vs, h1, h2, h3, h4⟩ := ih
    have hl := h.len
    refine ⟨vs ++ [t], by simp [h1], by rw [sum_snocI, h2], by rw [sum_snocN, h3], fun i tb' k' v' g1 g2 g3 => ?_⟩
    by_cases hi : i < ts.length
    · rw [List.getElem?_append_left hi] at g1
      rw [List.getElem?_append_left (by omega)] at g2 g3
      exact h4 i tb' k' v' g1 g2 g3
    · have hi2 : i = ts.length := by
        have := (List.getElem?_eq_some_iff.mp g1).1
        simp at this
        omega
      subst hi2
      rw [List.getElem?_append_right (Nat.le_refl _), Nat.sub_self] at g1
      rw [← hl, List.getElem?_append_right (Nat.le_refl _), Nat.sub_self] at g2
      rw [← h1, List.getElem?_append_right (Nat.le_refl _), Nat.sub_self] at g3
      have e1 := Option.some.inj g1
      have e2 := Option.some.inj g2
      have e3 := Option.some.inj g3
      subst e1
      subst e2
      subst e3
      exact hm
def tkAt (c : Case) (cs : List Nat) (p : Nat) : Int := match dget (tab c p) (cs.getD p 0) with
  | some r => r.tk
  | none => 0
theorem set_sums {c : Case} (wf : WfL c.L) {cs : List Nat} (hS : ∀ p, p ≤ c.L.length → Set c cs p) {p : Nat} (hp : p ≤ c.L.length) : ∃ r b n, dget (tab c p) (cs.getD p 0) = some r ∧ best ((kids c.L p).map fun k => takes (tab c k)) (cs.getD p 0) = some b ∧ takenOf c p (b.1 + wantN c.W p, b.2) (cs.getD p 0) = some r ∧
    b.1 = ((kids c.L p).map (tkAt c cs)).sum ∧ n = ((kids c.L p).map fun q => cs.getD q 0).sum ∧ n ≤ cs.getD p 0 := by
  obtain ⟨r, hr, hpart⟩ := hS p hp
  obtain ⟨_, hrow⟩ := tab_row wf hp hr
  obtain ⟨b, hb, ht⟩ := row_some hrow
  have hbp : r.part = b.2 := by have := takenOf_part ht; exact this
  obtain ⟨n, hn, hP⟩ := best_parts hb
  obtain ⟨vs, h1, h2, h3, h4⟩ := parts_vals hP
  have hl := hP.len
  rw [List.length_map] at h1 hl
  refine ⟨r, b, n, hr, hb, ht, ?_, ?_, hn⟩
  · rw [h2]
    congr 1
    apply List.ext_getElem?
    intro i
    by_cases hi : i < (kids c.L p).length
    · have hq : (kids c.L p)[i]? = some (kids c.L p)[i] := List.getElem?_eq_getElem hi
      have hv : vs[i]? = some vs[i] := List.getElem?_eq_getElem (by omega)
      generalize (kids c.L p)[i] = q at hq
      have hk := kids_gt wf (List.mem_of_getElem? hq)
      have g := hpart i q hq
      rw [hbp] at g
      have hm := h4 i (takes (tab c q)) (cs.getD q 0) vs[i] (by rw [List.getElem?_map, hq]; rfl) g hv
      obtain ⟨rq, hrq, hv2⟩ := mem_takes.mp hm
      have hd := dget_of_mem (tab_nd wf hk.2) hrq
      rw [hv, List.getElem?_map, hq]
      show some vs[i] = some (tkAt c cs q)
      unfold tkAt
      rw [hd, ← hv2]
    · rw [List.getElem?_eq_none (by omega), List.getElem?_eq_none (by rw [List.length_map]; omega)]
  · rw [h3]
    congr 1
    apply List.ext_getElem?
    intro i
    by_cases hi : i < (kids c.L p).length
    · have hq : (kids c.L p)[i]? = some (kids c.L p)[i] := List.getElem?_eq_getElem hi
      generalize (kids c.L p)[i] = q at hq
      have g := hpart i q hq
      rw [hbp] at g
      rw [g, List.getElem?_map, hq]
      rfl
    · rw [List.getElem?_eq_none (by omega), List.getElem?_eq_none (by rw [List.length_map]; omega)]
theorem le_sum {l : List Nat} {x : Nat} (h : x ∈ l) : x ≤ l.sum := by
  induction l with
  | nil => cases h
  | cons y l ih =>
    rw [List.sum_cons]
    rcases List.mem_cons.mp h with e | e
    · omega
    · have := ih e
      omega
/-- what the told way counts: no more behind a place than at it -/
theorem told_counts {c : Case} (wf : WfL c.L) {cs : List Nat} (h : told c = some cs) {p : Nat} (hp : p ≤ c.L.length) : ((kids c.L p).map fun q => cs.getD q 0).sum ≤ cs.getD p 0 ∧ ∀ q ∈ kids c.L p, cs.getD q 0 ≤ cs.getD p 0 := by
  obtain ⟨r, b, n, _, _, _, _, h5, h6⟩ := set_sums wf (told_set wf h) hp
  refine ⟨by omega, fun q hq => ?_⟩
  have := le_sum (l := (kids c.L p).map fun q => cs.getD q 0) (List.mem_map.mpr ⟨q, hq, rfl⟩)
  omega
theorem told_left {c : Case} (wf : WfL c.L) {cs : List Nat} (h : told c = some cs) : cs.getD 0 0 ≤ c.left := by
  obtain ⟨r, hr, _⟩ := told_set wf h 0 (Nat.zero_le _)
  exact (tab_row wf (Nat.zero_le _) hr).1
/-- at a place behind the base: what is taken is what is needed, and what is eaten on the mile to it -/
theorem taken_eaten {c : Case} (wf : WfL c.L) {p e : Nat} {b : Int × List Nat} {r : TRow} (hp : p ≤ c.L.length) (h0 : p ≠ 0) (hb : best ((kids c.L p).map fun k => takes (tab c k)) e = some b) (ht : takenOf c p (b.1 + wantN c.W p, b.2) e = some r) : r.tk = b.1 + wantN c.W p + (r.out + r.back) := by
  unfold takenOf at ht
  rw [if_neg h0] at ht
  split at ht
  · rename_i z
    obtain ⟨z1, z2⟩ := z
    subst z1
    have := zero_need wf hp z2 hb
    rw [← Option.some.inj ht]
    show (0 : Int) = b.1 + wantN c.W p + (0 + 0)
    omega
  · obtain ⟨o, _, rfl⟩ := Option.map_eq_some_iff.mp ht
    show b.1 + wantN c.W p + 2 * o - (e : Int) = b.1 + wantN c.W p + (o + (o - (e : Int)))
    omega
def eatAt (c : Case) (cs : List Nat) (p : Nat) : Int := match dget (tab c p) (cs.getD p 0) with
  | some r => r.out + r.back
  | none => 0
theorem told_eaten {c : Case} (wf : WfL c.L) {cs : List Nat} (h : told c = some cs) : least c = some (((List.range c.L.length).map fun i => eatAt c cs (i + 1)).sum + ((List.range (c.L.length + 1)).map fun p => wantN c.W p).sum) := by
  have hS := told_set wf h
  have h1 : ∀ p, p ≤ c.L.length → tkAt c cs p = ((kids c.L p).map (tkAt c cs)).sum + (wantN c.W p + if p = 0 then 0 else eatAt c cs p) := fun p hp => by
    obtain ⟨r, b, n, hr, hb, ht, e1, _, _⟩ := set_sums wf hS hp
    have hk : tkAt c cs p = r.tk := by unfold tkAt; rw [hr]
    have he : eatAt c cs p = r.out + r.back := by unfold eatAt; rw [hr]
    rw [hk, he, ← e1]
    by_cases h0 : p = 0
    · rw [if_pos h0]
      unfold takenOf at ht
      rw [if_pos h0] at ht
      rw [← Option.some.inj ht]
      show b.1 + wantN c.W p = b.1 + (wantN c.W p + 0)
      omega
    · rw [if_neg h0, taken_eaten wf hp h0 hb ht]
      omega
  have hsum : ((List.range (c.L.length + 1)).map (tkAt c cs)).sum = ((List.range c.L.length).map fun i => tkAt c cs (i + 1)).sum + (((List.range (c.L.length + 1)).map fun p => wantN c.W p).sum + ((List.range (c.L.length + 1)).map fun p => if p = 0 then 0 else eatAt c cs p).sum) := by
    rw [← kids_sum (tkAt c cs) (c.L.length + 1) c.L.length c.L rfl (fun i hi => by have := wf i hi; omega), ← sum_add, ← sum_add]
    congr 1
    refine List.map_congr_left fun p hp => ?_
    have := List.mem_range.mp hp
    exact h1 p (by omega)
  have hshift : ∀ (f : Nat → Int) (n : Nat), ((List.range (n + 1)).map f).sum = f 0 + ((List.range n).map fun i => f (i + 1)).sum := by
    intro f n
    rw [List.range_succ_eq_map, List.map_cons, List.sum_cons, List.map_map]
    rfl
  rw [hshift (tkAt c cs), hshift (fun p => if p = 0 then 0 else eatAt c cs p)] at hsum
  have e0 : ((List.range c.L.length).map fun i => (fun p => if p = 0 then (0 : Int) else eatAt c cs p) (i + 1)) = (List.range c.L.length).map fun i => eatAt c cs (i + 1) := by
    refine List.map_congr_left fun i _ => ?_
    show (if i + 1 = 0 then (0 : Int) else _) = _
    rw [if_neg (Nat.succ_ne_zero i)]
  rw [e0] at hsum
  rw [if_pos rfl] at hsum
  have ht0 : tkAt c cs 0 = ((List.range c.L.length).map fun i => eatAt c cs (i + 1)).sum + ((List.range (c.L.length + 1)).map fun p => wantN c.W p).sum := by omega
  rw [← ht0]
  unfold told at h
  obtain ⟨m, hm, hcs⟩ := Option.map_eq_some_iff.mp h
  have hne : takes (tab c 0) ≠ [] := fun z => by rw [z] at hm; cases hm
  obtain ⟨n, e, g1, _⟩ := bestL_some hne
  rw [hm] at e
  have e := Option.some.inj e
  subst e
  have hlt : least c = some m.1 := by unfold least; rw [hm]; rfl
  rw [hlt]
  congr 1
  obtain ⟨r, hr, hv⟩ := mem_takes.mp g1
  have hd := dget_of_mem (tab_nd wf (Nat.zero_le _)) hr
  have hc0 : cs.getD 0 0 = m.2 := by
    have : ∀ i, i ≤ c.L.length + 1 → ((List.range i).foldl (cntStep c) ((List.replicate (c.L.length + 1) 0).set 0 m.2)).getD 0 0 = m.2 := by
      intro i
      induction i with
      | zero => intro _; simp
      | succ i ih =>
        intro hi
        have kn := known_upto wf hm i (by omega)
        obtain ⟨_, r, hr1, hr2⟩ := known_step wf (show i ≤ c.L.length by omega) kn
        rw [List.range_succ, List.foldl_append]
        show (cntStep c _ i).getD 0 0 = m.2
        rw [hr2, getD_q (setKids_out (fun z => by have := kids_gt wf z; omega))]
        exact ih (by omega)
    rw [← hcs]
    exact this (c.L.length + 1) (Nat.le_refl _)
  unfold tkAt
  rw [hc0, hd]
  exact hv.symm
end Oat
namespace Oat
def lone (n p u : Nat) : List (Option Nat) := (List.range n).map fun k => if k = p then some u else none
theorem lone_len (n p u : Nat) : (lone n p u).length = n := by simp [lone]
theorem lone_ok {n p u i x : Nat} (h : (lone n p u)[i]? = some (some x)) : x = u := by
  unfold lone at h
  rw [List.getElem?_map] at h
  obtain ⟨k, _, hk⟩ := Option.map_eq_some_iff.mp h
  split at hk
  · exact (Option.some.inj hk).symm
  · cases hk
end Oat
namespace Oa
open PySem PySem.Spec PyProof.Rows L2 Oat
section
variable {P : Program} {w : World} {K : PySem.W.Frag} {mg : Str → Option Value} {base : Heap}
theorem CaseAt.lone {H : Hp} {a b d d' : Addr} {c : Case} {carts p u : Nat} (h : CaseAt K H a b d c carts) (hu : u ≤ 999) (hd : SqT K H d' (wantsV (lone (c.L.length + 1) p u))) : CaseAt K H a b d' { c with W := lone (c.L.length + 1) p u } carts :=
  ⟨h.l, h.k, hd, h.n, h.wf, h.c1, h.c6, h.r2, h.r20, lone_len _ _ _, fun i x hx => by rw [lone_ok hx]; exact hu, h.lf⟩
/-! ### look_place, look_most: of those that are -/
def sp_look_place (K : PySem.W.Frag) : Sp := fun vs H Q _ => ∃ a L p, vs = [.ref a, .int ((p : Nat) : Int)] ∧ SqT K H a (landV L) ∧ p ≤ L.length ∧ Q .non H
def sp_look_most : Sp := fun vs H Q _ => ∃ m, vs = [.int ((m : Nat) : Int)] ∧ m ≤ 999 ∧ Q .non H
/-! ### wants_one -/
def sp_wants_one (K : PySem.W.Frag) : Sp := fun vs H Q _ => ∃ a L p u, vs = [.ref a, .int ((p : Nat) : Int), .int ((u : Nat) : Int)] ∧ SqT K H a (landV L) ∧ L.length < 30 ∧ ∀ d H', Same H H' → SqT K H' d (wantsV (lone (L.length + 1) p u)) → Q (.ref d) H'
/-! ### price_of_leaving -/
def leavingL (c : Case) (carts : Nat) : List V := (List.range (carts + 1)).map fun e => oiV (least { c with left := e })
def sp_price_of_leaving (K : PySem.W.Frag) : Sp := fun vs H Q _ => ∃ a b d c carts, vs = [.ref a, .ref b, .ref d] ∧ CaseAt K H a b d c carts ∧ c.room ≤ 20 ∧ ∀ l H', Same H H' → H l = none → H' l = some (.lst (leavingL c carts)) → Q (.ref l) H'
end
end Oa
namespace SrtO
open PySem PyProof.Rows Srt
section
variable {prog : Program} {w : World} {A : Around} {E : Value → Shared → Prop} {s : Shared}
/-- what is collected of a tuple stands in a new list -/
theorem collect_of_tuple {tp : Addr} {vals : List Value} {Qc : List Value → Shared → Prop} (htp : ∃ o, s.heap.get? tp = some o ∧ o.cls = .type "tuple" ∧ ∃ n, o.data = .seq vals.toArray n) (hsmall : vals.length ≤ sizeLine)
    (hq : Qc vals { s with heap := (s.heap.push (seqObj "list" #[] 0)).update s.heap.objs.size (Obj.mapSeq (· ++ vals.toArray)) }) : wpAny (model prog w) A (collect (.ref tp)) Qc E s := by
  obtain ⟨ob, hob, hcl, nn, hda⟩ := htp
  unfold collect
  refine wpAny_bind (wpAny_runValue (codeAny_builtin entry_proto_collect' ?_))
  show wpAny _ _ (do again (.builtin "list.__iadd__" ⟨[← newList [], .ref tp], []⟩)) _ _ s
  refine wpAny_bind (wpAny_newList (wpAny_pure ⟨Code.quiet_builtin _ (by decide +kernel), codeAny_builtin entry_list_iadd' ?_⟩))
  show wpAny _ _ (Builtin.List.listExtendWith (.ref s.heap.objs.size) (.ref tp) (.ref s.heap.objs.size)) _ _ { s with heap := s.heap.push (seqObj "list" #[] 0) }
  unfold Builtin.List.listExtendWith
  have hob2 : (s.heap.push (seqObj "list" #[] 0)).get? tp = some ob := Heap.get?_push_of_some _ hob
  refine wpAny_bind (wpAny_typeOf (T := "tuple") ⟨ob, hob2, hcl⟩ ?_)
  have hty : (Value.type "tuple" == Value.type "tuple") = true := by rfl
  rw [if_pos (by rw [hty]; simp)]
  refine wpAny_bind (listItems_at hob2 hda ?_)
  refine wpAny_bind (listItems_at (xs := #[]) (n := 0) (Heap.get?_push_size _ rfl) rfl ?_)
  rw [if_neg (by simp)]
  refine wpAny_bind (listUpdate_at (xs := #[]) (n := 0) (Heap.get?_push_size _ rfl) rfl ?_ (Nat.zero_le _) (by show (#[] ++ vals.toArray).size ≤ sizeLine + 1; simp only [Array.size_append, List.size_toArray, List.length_nil]; omega))
  refine wpAny_pure ?_
  show wpAny (model prog w) A (do
      let o ← load s.heap.objs.size
      match o.data with
      | .seq xs _ => pure xs.toList
      | _ => unsupported "internal:collect") Qc E { s with heap := (s.heap.push (seqObj "list" #[] 0)).update s.heap.objs.size (Obj.mapSeq (· ++ vals.toArray)) }
  refine wpAny_bind (wpAny_load (get?_update_seq (Heap.get?_push_size _ rfl) _) ?_)
  show wpAny _ _ (pure ((#[] : Array Value) ++ vals.toArray).toList) Qc E _
  rw [show ((#[] : Array Value) ++ vals.toArray).toList = vals by simp]
  exact wpAny_pure hq
theorem sorted_of_tuple {tp : Addr} {vals : List Value} {lt : Value → Value → Bool} {Qc : Value → Shared → Prop} (Ow : Swo lt) (htp : ∃ o, s.heap.get? tp = some o ∧ o.cls = .type "tuple" ∧ ∃ n, o.data = .seq vals.toArray n) (hsmall : vals.length ≤ sizeLine)
    (hso : 2 ≤ vals.length → ∀ (h₁ : Heap) (a : Addr), h₁.get? a = some (seqObj "list" vals.toArray 0) → (∀ b o, s.heap.get? b = some o → b ≠ a ∧ h₁.get? b = some o) → SortableO prog w A.in1.in1 { s with heap := h₁ } a vals lt)
    (hq : ∀ out : List Value, Srtd lt out → Stb lt out vals → Qc (.ref (s.heap.objs.size + 1)) { s with heap := sortedAll s.heap vals out.toArray }) : wpAny (model prog w) A (call (.builtin "sorted") [.ref tp]) Qc E s := by
  refine Calls.call_function_entry kind_sorted plain_sorted entry_sorted (args_sorted1 _) ?_
  unfold Builtin.«sorted»
  refine wpAny_bind (m := checkCount "sorted" 1 1 _) (wpAny_pure ?_)
  refine wpAny_bind (collect_of_tuple htp hsmall ?_)
  refine wpAny_bind (wpAny_newList ?_ hsmall)
  have esz : ((s.heap.push (seqObj "list" #[] 0)).update s.heap.objs.size (Obj.mapSeq (· ++ vals.toArray))).objs.size = s.heap.objs.size + 1 := by rw [Heap.size_update, size_push']
  have hnew : (((s.heap.push (seqObj "list" #[] 0)).update s.heap.objs.size (Obj.mapSeq (· ++ vals.toArray))).push (seqObj "list" vals.toArray 0)).get? (s.heap.objs.size + 1) = some (seqObj "list" vals.toArray 0) := by rw [← esz]; exact Heap.get?_push_size _ rfl
  have stays : ∀ b o, s.heap.get? b = some o → b ≠ s.heap.objs.size + 1 ∧ (((s.heap.push (seqObj "list" #[] 0)).update s.heap.objs.size (Obj.mapSeq (· ++ vals.toArray))).push (seqObj "list" vals.toArray 0)).get? b = some o := fun b o e => by
    have lb : b < s.heap.objs.size := Heap.lt_size e
    refine ⟨Nat.ne_of_lt (Nat.lt_succ_of_lt lb), Heap.get?_push_of_some _ (by rw [Heap.get?_update_ne _ _ _ _ (Nat.ne_of_lt lb)]; exact Heap.get?_push_of_some _ e)⟩
  show wpAny _ _ _ _ _ { s with heap := ((s.heap.push (seqObj "list" #[] 0)).update s.heap.objs.size (Obj.mapSeq (· ++ vals.toArray))).push (seqObj "list" vals.toArray 0) }
  rw [esz]
  refine wpAny_bind (wpAny_holding (wpAny_call_entry slot_list_sort ⟨_, hnew, rfl⟩ entry_list_sort (list_sort_ord Ow hnew hsmall (fun g2 => hso g2 _ _ hnew stays) fun out g1 g2 => ⟨_, rfl, ?_⟩) (args_list_sort _)))
  exact wpAny_pure ⟨_, rfl, hq out g1 g2⟩
end
end SrtO
namespace Oa
open PySem PySem.Spec PyProof.Rows L2
section
variable {X : Cx}
/-- x.name(e, ..), the written part told -/
theorem pe_bmK (K : PySem.W.Frag) {ob ea : Expr} {eb : List Expr} {tob : TE} {targ : TA} {mname : Str} {ap cp : Pos} {Ty mid : String} {rr : V → List V → Hp → VK → Prop} (pat : PlainAttrs Ty) (slt : Slot Ty mname mid) (hmd : typeOf (.builtin mid) = pure (.type "method_descriptor")) (hmt : MtR X mid rr) (hob : PE X ob tob) (har : PA X (ea :: eb) targ)
    (hab : attributeBase ob mname X.env (eval ob X.env) = eval ob X.env := by rfl)
    (hfw : ((backTo cp (starEach (ea :: eb) X.env)).all (fun x => !x.1) && (backToKw cp (keywordEach [] X.env)).all (fun x => x.1.isSome) && decide ((ea :: eb).length + ([] : List Keyword).length + (if ([] : List Keyword).isEmpty then 0 else 1) < 30)) = true := by rfl)
    (hli : (ap.endLine == cp.line) = true := by rfl) (hst : starEach (ea :: eb) X.env = (false, eval ea X.env) :: starEach eb X.env := by rfl) (hpn : (backTo cp (starEach eb X.env)).any (·.1) = false := by rfl) (hK : X.K = K := by rfl) :
    PE X (.Call (.Attribute ob mname ap) (ea :: eb) [] cp) (tBM K Ty rr tob targ) := by
  subst hK
  exact pe_bm pat slt hmd hmt hob har hab hfw hli hst hpn
/-- tuple(l): the new tuple is known to the letter, and stays so -/
theorem tupOfZ (K : PySem.W.Frag) (hK : X.K = K := by rfl) : CallR X (.type "tuple") (fun xs H Q => ∃ p ys, xs = [.ref p] ∧ SqL K H p ys ∧ ∀ l od, od.dict = none → H l = none → Q (.ref l) (upd H l (.frz od (.tup ys)))) := by
  subst hK
  intro pins s σ H xs us Q I r hh
  obtain ⟨p, ys, rfl, hsq, q⟩ := hh
  obtain ⟨u, rfl, rx⟩ := vals1 r
  cases rx
  obtain ⟨its, rv, pl, hz⟩ := I.list hsq
  have hln := rv.length
  refine call_tuple_list pl.isList (fun hp kp => ?_) (by simp only [List.size_toArray] <;> omega)
  have J1 : Inv X pins σ H { s with heap := hp } := I.kept (t' := s.toks) kp
  have J2 : Inv X pins σ (upd H hp.objs.size (.frz { cls := .type "tuple", data := .seq its.toArray } (.tup ys))) { s with heap := hp.push { cls := .type "tuple", data := .seq its.toArray } } := J1.laid (t' := s.toks) (fun b o e => Heap.get?_push_of_some _ e) (Nat.le_refl _) ⟨Heap.get?_push_size _ rfl, hz, its, rv, IsTup.new _ _⟩
  exact ⟨.ref hp.objs.size, _, J2, rfl, q _ _ rfl (J1.hok.fresh (Nat.le_refl _))⟩
def PureT (H : Hp) (p : Addr) (xs : List V) : Prop := ∃ od : Obj, H p = some (.frz od (.tup xs)) ∧ od.dict = none
theorem PureT.sq {K : PySem.W.Frag} {H : Hp} {p : Addr} {xs : List V} (h : PureT H p xs) : SqT K H p xs := by
  obtain ⟨od, h, _⟩ := h
  exact .inl (.inr ⟨od, h⟩)
theorem PureT.same {H H' : Hp} {p : Addr} {xs : List V} (h : PureT H p xs) (s : Same H H') : PureT H' p xs := by
  obtain ⟨od, h, d⟩ := h
  exact ⟨od, s _ _ h, d⟩
/-- t.name(e, ..), t a tuple that is known to the letter -/
def tBMT (r : V → List V → Hp → VK → Prop) (to : TE) (t : TA) : TE := fun σ H Q => to σ H fun x H1 => (∃ p xs, x = .ref p ∧ PureT H1 p xs) ∧ t σ H1 fun vs H2 => r x vs H2 Q
theorem pe_bmT {ob ea : Expr} {eb : List Expr} {tob : TE} {targ : TA} {mname : Str} {ap cp : Pos} {mid : String} {rr : V → List V → Hp → VK → Prop} (slt : Slot "tuple" mname mid) (hmd : typeOf (.builtin mid) = pure (.type "method_descriptor")) (hmt : MtR X mid rr) (hob : PE X ob tob) (har : PA X (ea :: eb) targ)
    (hab : attributeBase ob mname X.env (eval ob X.env) = eval ob X.env := by rfl)
    (hfw : ((backTo cp (starEach (ea :: eb) X.env)).all (fun x => !x.1) && (backToKw cp (keywordEach [] X.env)).all (fun x => x.1.isSome) && decide ((ea :: eb).length + ([] : List Keyword).length + (if ([] : List Keyword).isEmpty then 0 else 1) < 30)) = true := by rfl)
    (hli : (ap.endLine == cp.line) = true := by rfl) (hst : starEach (ea :: eb) X.env = (false, eval ea X.env) :: starEach eb X.env := by rfl) (hpn : (backTo cp (starEach eb X.env)).any (·.1) = false := by rfl) :
    PE X (.Call (.Attribute ob mname ap) (ea :: eb) [] cp) (tBMT rr tob targ) := by
  refine ⟨fun pins s σ H Q I hw => ?_⟩
  refine wpAny_Call_method_late hab hfw hli rfl (thn (hob.run pins s σ H _ I hw) fun v s1 ⟨x, H1, I1, r1, ty, q1⟩ => ?_)
  obtain ⟨p, xs, rfl, od, hp, hd⟩ := ty
  cases r1
  obtain ⟨hget, hok⟩ := I1.hok p _ hp
  obtain ⟨_, its, rv, hit⟩ := hok
  have hty : s1.TypeIs (.ref p) "tuple" := by
    obtain ⟨o2, g1, g2, _⟩ := hit
    exact ⟨o2, g1, g2⟩
  refine ⟨"tuple", mid, PySem.F.plainAttrs_tuple, slt, hmd, hty, fun a e => ?_, ?_⟩
  · cases e
    exact ⟨od, hget, hd⟩
  · have hA := har.run cp pins s1 σ H1 _ I1 q1
    rw [hst] at hA ⊢
    refine Calls.callWith_builtin (by show (false || (backTo cp (starEach eb X.env)).any (·.1)) = false; rw [hpn] <;> rfl) (Calls.evalArgs_plain ?_)
    exact thn hA fun us s2 ⟨vs, H2, I2, r2, q2⟩ => hmt pins s2 σ H2 (.ref p) vs (.ref p) us Q I2 rfl r2 q2
/-- sorted(t), t a tuple of ints -/
def rSortedTu (K : PySem.W.Frag) : List V → Hp → VK → Prop := fun vs H Q => ∃ (a : Addr) (ns : List Int), vs = [V.ref a] ∧ SqT K H a (ns.map V.int) ∧ ∀ (ms : List Int) (p : Addr), ms.Perm ns → ms.Pairwise (· ≤ ·) → H p = none → Q (.ref p) (upd H p (.lst (ms.map V.int)))
theorem srtTu (K : PySem.W.Frag) (hK : X.K = K := by rfl) : CallR X (.builtin "sorted") (rSortedTu K) := by
  subst hK
  intro pins s σ H vs us Q I r hh
  obtain ⟨a, ns, rfl, hsq, q⟩ := hh
  obtain ⟨its, rv, pl, hz⟩ := I.tuple hsq
  rw [Vals.ref1 r]
  have hii := rv.ints
  have hz2 : its.length ≤ sizeLine := by rw [← rv.length]; exact hz
  refine SrtO.sorted_of_tuple SrtO.swo_int pl hz2 (fun g2 h₁ a' _ _ => SrtO.ints_sortable hii g2) fun out g1 g2 => ?_
  obtain ⟨o1, o2, o3⟩ := SrtO.ints_out hii g1 g2
  obtain ⟨ep, hat⟩ := PyProof.Rows.sortedAll_at s.heap its out.toArray
  have hln : ((out.map SrtO.iv).map V.int).length ≤ sizeLine := by
    rw [List.length_map, o2.length_eq]
    rw [List.length_map] at hz
    exact hz
  exact ⟨.ref _, upd H (s.heap.objs.size + 1) (.lst ((out.map SrtO.iv).map V.int)), I.laid (t' := s.toks) (fun _ _ => PyProof.Rows.sortedAll_old) (Nat.le_succ _) ⟨hln, out, ep, vals_of_ints o1, hat⟩, rfl, q _ _ o2 o3 (I.hok.fresh (Nat.le_succ _))⟩
theorem srtI (K : PySem.W.Frag) (hK : X.K = K := by rfl) : CallR X (.builtin "sorted") (rSortedI K) := by subst hK; exact cr_sortedI
theorem flat_ints (ys : List Int) : (ys.map V.int).all flatV = true := by
  rw [List.all_map]
  exact List.all_eq_true.mpr fun _ _ => rfl
/-- t.index(i), t a tuple of ints: the first place -/
def rTupIndex (K : PySem.W.Frag) : V → List V → Hp → VK → Prop := fun x xs H Q => ∃ (p : Addr) (ys : List Int) (z : Int) (j : Nat), x = .ref p ∧ xs = [.int z] ∧ SqT K H p (ys.map V.int) ∧ ys[j]? = some z ∧ (∀ m, m < j → ys[m]? ≠ some z) ∧ Q (.int (j : Nat)) H
theorem mt_tupIndexI (K : PySem.W.Frag) (hK : X.K = K := by rfl) : MtR X "tuple.index" (rTupIndex K) := by
  subst hK
  intro pins s σ H x xs v us Q I rx rs hh
  obtain ⟨p, ys, z, j, rfl, rfl, hsq, hyj, hfirst, q⟩ := hh
  cases rx
  obtain ⟨u, rfl, tk, rfl⟩ := vals1 rs
  obtain ⟨its, rv, pl, hz⟩ := I.tuple hsq
  obtain ⟨⟨cls, dd, dt, sl⟩, hob, hcl, nn, hda⟩ := pl
  simp only at hcl hda
  subst hcl
  subst hda
  have hsize : its.toArray.size = ys.length := by rw [List.size_toArray, ← rv.length, List.length_map]
  have hjs : j < its.toArray.size := by rw [hsize]; exact (List.getElem?_eq_some_iff.mp hyj).1
  have item : ∀ (m : Nat) (hm : m < its.toArray.size), ∃ y t', ys[m]? = some y ∧ its.toArray[m] = Value.int y t' := fun m hm => by
    have hm2 : m < ys.length := by rw [← hsize]; exact hm
    obtain ⟨wv, hwv, t', hwe⟩ := rv.get (i := m) (x := .int ys[m]) (by simp [hm2])
    refine ⟨ys[m], t', List.getElem?_eq_getElem hm2, ?_⟩
    have e := (List.getElem?_eq_some_iff.mp hwv).2
    rw [← hwe, ← e]
    simp
  refine call_meets PySem.F.slot_tuple_index ⟨_, hob, rfl⟩ PySem.F.entry_tuple_index (PySem.F.args_tuple_index_2 _ _) (TI.tuple_indexAt p its.toArray nn dd sl (.int z tk) (eqU (.int z)) j hjs ?_ ?_)
    ⟨hob, fun wv hwv => mem_eqAt (x := .int z) ⟨tk, rfl⟩ rfl rv (flat_ints ys) wv (by simpa using hwv), ⟨.int (j : Nat), H, I.tok _, ⟨_, rfl⟩, q⟩⟩
  · obtain ⟨y, t', g1, g2⟩ := item j hjs
    rw [hyj] at g1
    cases g1
    rw [g2]
    show (z == z) = true
    exact beq_self_eq_true z
  · intro m hm hmj
    obtain ⟨y, t', g1, g2⟩ := item m hm
    rw [g2]
    show (y == z) = false
    refine beq_eq_false_iff_ne.mpr fun e => hfirst m hmj ?_
    rw [g1, e]
end
end Oa
namespace L2
open PySem PySem.Spec PyProof.Rows
theorem tuple_mul1 (l : Addr) (items : Array Value) (n : Nat) (dd : Option Addr) (sl : Array (Option Value)) (u : Tok) :
    Meets (Builtin.«tuple.__mul__» ⟨[.ref l, .int 1 u], []⟩) (fun _ R s => s.heap.get? l = some { cls := .type "tuple", dict := dd, data := .seq items n, slots := sl } ∧ R (.ok (.ret (Value.ref l))) s) :=
  .of_wp fun prog w A R s h => by
    obtain ⟨hp, g, d, tk, os⟩ := s
    obtain ⟨hl, h⟩ := h
    have f1 := AutoSeq1.idx_int
    wp_walk using wpAny_loadPart' hl
    have c1 : (items.isEmpty || (1 : Int) == 1) = true := by simp
    repeat (first
      | (refine wpAny_ite_true (decide_eq_true c1) ?_; wp_walk using wpAny_loadPart' hl)
      | (refine wpAny_ite_false (decide_eq_false (by decide)) ?_; wp_walk using wpAny_loadPart' hl))
    exact ⟨_, rfl, h⟩
theorem tuple_mul0 (l : Addr) (items : Array Value) (n : Nat) (dd : Option Addr) (sl : Array (Option Value)) (u : Tok) (hne : items.isEmpty = false) :
    Meets (Builtin.«tuple.__mul__» ⟨[.ref l, .int 0 u], []⟩) (fun _ R s => s.heap.get? l = some { cls := .type "tuple", dict := dd, data := .seq items n, slots := sl } ∧
      R (.ok (.ret (Value.ref s.heap.objs.size))) { s with heap := s.heap.push { cls := Value.type "tuple", data := Data.seq #[] }, toks := s.toks }) :=
  .of_wp fun prog w A R s h => by
    obtain ⟨hp, g, d, tk, os⟩ := s
    obtain ⟨hl, h⟩ := h
    have f1 := AutoSeq1.idx_int
    wp_walk using wpAny_loadPart' hl
    have c1 : (items.isEmpty || (0 : Int) == 1) = false := by rw [hne]; decide
    have c2 : (decide ((0 : Int) ≤ 0) || items.isEmpty) = true := by simp
    repeat (first
      | (refine wpAny_ite_false (decide_eq_false (by rw [c1]; exact Bool.false_ne_true)) ?_; wp_walk using wpAny_loadPart' hl)
      | (refine wpAny_ite_true (decide_eq_true c2) ?_; wp_walk using wpAny_loadPart' hl)
      | (refine wpAny_ite_false (decide_eq_false (by decide)) ?_; wp_walk using wpAny_loadPart' hl))
    exact ⟨_, rfl, h⟩
end L2
namespace Oa
open PySem PySem.Spec PyProof.Rows L2
section
variable {X : Cx}
/-- t * k, t a tuple with something in it, k any small count -/
def rRepA (K : PySem.W.Frag) : R2 := fun x y H Q => ∃ (l : Addr) (k : Nat) (xs : List V), x = .ref l ∧ y = .int ((k : Nat) : Int) ∧ SqT K H l xs ∧ xs ≠ [] ∧ k ≤ 1000 ∧ xs.length ≤ 1000 ∧ ∀ p H', Same H H' → SqT K H' p (List.replicate k xs).flatten → Q (.ref p) H'
theorem repA (K : PySem.W.Frag) (hK : X.K = K := by rfl) : OpR X (binaryOp .Mult) (rRepA K) := by
  subst hK
  intro pins s σ H x y v u Q I rx ry hh
  obtain ⟨l, k, xs, rfl, rfl, hsq, hne, hk, hz, q⟩ := hh
  by_cases h2 : 2 ≤ k
  · refine op_repT pins s σ H _ _ v u Q I rx ry ⟨l, ((k : Nat) : Int), xs, rfl, rfl, hsq, hne, by omega, by omega, hz, fun p np => ?_⟩
    exact q p _ (same_new np) (sqt upd_same)
  · cases rx
    obtain ⟨t, rfl⟩ := ry
    obtain ⟨its, rv, ⟨⟨cls, dd, data, sl⟩, hob, hcl, nn, hda⟩, hs⟩ := I.tuple hsq
    simp only at hcl hda
    subst hcl hda
    have hle : its.length = xs.length := rv.length.symm
    have hi : its.toArray.isEmpty = false := by
      cases its with
      | nil => exact absurd (List.eq_nil_of_length_eq_zero hle.symm) hne
      | cons a b => rfl
    rcases (show k = 0 ∨ k = 1 by omega) with e | e
    · subst e
      refine wpAny_binaryOp_repeat_ref (T := "tuple") (U := "int") (by decide) ⟨_, hob, rfl⟩ (fun s' => typeIs_int s' 0 t) noFill_tuple_mul F.fills_int_mul F.slot_int_rmul repeat_tuple F.slot_int_index.lookup
        (call_meets F.slot_int_rmul (typeIs_int s 0 t) F.entry_int_rmul (F.args_int_rmul_2 _ _) (int_rmul_tuple 0 t l its.toArray nn dd sl)
          ⟨hob, rfl, ⟨_, hob, rfl⟩, call_meets F.slot_tuple_mul ⟨_, hob, rfl⟩ F.entry_tuple_mul (F.args_tuple_mul_2 _ _) (tuple_mul0 l its.toArray nn dd sl t hi) ⟨hob, ?_⟩⟩)
      refine ⟨.ref s.heap.objs.size, _, I.laid (t' := s.toks) (o := .tup []) (fun b ob e => Heap.get?_push_of_some _ e) (Nat.le_refl _) ?_, rfl, q _ _ (same_new (I.hok.fresh (Nat.le_refl _))) (sqt upd_same)⟩
      exact ⟨Nat.zero_le _, [], .nil, IsTup.new _ _⟩
    · subst e
      refine wpAny_binaryOp_repeat_ref (T := "tuple") (U := "int") (by decide) ⟨_, hob, rfl⟩ (fun s' => typeIs_int s' 1 t) noFill_tuple_mul F.fills_int_mul F.slot_int_rmul repeat_tuple F.slot_int_index.lookup
        (call_meets F.slot_int_rmul (typeIs_int s 1 t) F.entry_int_rmul (F.args_int_rmul_2 _ _) (int_rmul_tuple 1 t l its.toArray nn dd sl)
          ⟨hob, rfl, ⟨_, hob, rfl⟩, call_meets F.slot_tuple_mul ⟨_, hob, rfl⟩ F.entry_tuple_mul (F.args_tuple_mul_2 _ _) (tuple_mul1 l its.toArray nn dd sl t) ⟨hob, ?_⟩⟩)
      refine ⟨.ref l, H, I, rfl, q l H (Same.refl _) ?_⟩
      rw [show (List.replicate 1 xs).flatten = xs by simp]
      exact hsq
end
end Oa
namespace Oat
/-! ### plans: deeds, standings -/
inductive DW where
  | go | take | lay
  deriving DecidableEq
structure Deed where
  w : DW
  c : Nat
  x : Nat
structure Stand where
  spots : List Nat
  loads : List Nat
  stores : List Nat
  taken : Int
  seen : List Nat
  outs : List Nat
  backs : List Nat
def stand0 (n carts : Nat) : Stand := ⟨List.replicate carts 0, List.replicate carts 0, List.replicate n 0, 0, [0], List.replicate n 0, List.replicate n 0⟩
def isOut (L : List Nat) (p q : Nat) : Bool := decide (1 ≤ q) && (decide (q ≤ L.length) && decide (L.getD (q - 1) 0 = p))
def isBack (L : List Nat) (p q : Nat) : Bool := decide (1 ≤ p) && decide (L.getD (p - 1) 0 = q)
def addAt (l : List Nat) (i k : Nat) : List Nat := l.set i (l.getD i 0 + k)
def deedF (L : List Nat) (room : Nat) (s : Stand) (d : Deed) : Option Stand :=
  match d.w with
  | .go =>
    if (isOut L (s.spots.getD d.c 0) d.x || isBack L (s.spots.getD d.c 0) d.x) = true ∧ s.loads.getD d.c 0 ≠ 0 then
      some { s with
        loads := s.loads.set d.c (s.loads.getD d.c 0 - 1), spots := s.spots.set d.c d.x, seen := s.seen ++ [d.x]
        outs := if isOut L (s.spots.getD d.c 0) d.x = true then addAt s.outs d.x 1 else s.outs
        backs := if isOut L (s.spots.getD d.c 0) d.x = true then s.backs else addAt s.backs (s.spots.getD d.c 0) 1 }
    else none
  | .take =>
    if 1 ≤ d.x ∧ s.loads.getD d.c 0 + d.x ≤ room ∧ (s.spots.getD d.c 0 = 0 ∨ d.x ≤ s.stores.getD (s.spots.getD d.c 0) 0) then
      some { s with
        loads := s.loads.set d.c (s.loads.getD d.c 0 + d.x)
        stores := if s.spots.getD d.c 0 = 0 then s.stores else s.stores.set (s.spots.getD d.c 0) (s.stores.getD (s.spots.getD d.c 0) 0 - d.x)
        taken := if s.spots.getD d.c 0 = 0 then s.taken + d.x else s.taken }
    else none
  | .lay =>
    if 1 ≤ d.x ∧ d.x ≤ s.loads.getD d.c 0 then
      some { s with
        loads := s.loads.set d.c (s.loads.getD d.c 0 - d.x)
        stores := if s.spots.getD d.c 0 = 0 then s.stores else addAt s.stores (s.spots.getD d.c 0) d.x
        taken := if s.spots.getD d.c 0 = 0 then s.taken - d.x else s.taken }
    else none
/-- the standing behind deeds, or the number of the first that can not be done -/
def runF (L : List Nat) (room : Nat) : Nat → Stand → List Deed → Nat ⊕ Stand
  | _, s, [] => .inr s
  | i, s, d :: ds => match deedF L room s d with
    | none => .inl i
    | some s' => runF L room (i + 1) s' ds
def standF (L : List Nat) (room carts : Nat) (ds : List Deed) : Nat ⊕ Stand := runF L room 0 (stand0 (L.length + 1) carts) ds
structure StOk (n carts : Nat) (s : Stand) : Prop where
  l1 : s.spots.length = carts
  l2 : s.loads.length = carts
  l3 : s.stores.length = n
  l4 : s.outs.length = n
  l5 : s.backs.length = n
  sp : ∀ c, s.spots.getD c 0 < n
theorem ok_stand0 {n carts : Nat} (hn : 1 ≤ n) : StOk n carts (stand0 n carts) := by
  refine ⟨by simp [stand0], by simp [stand0], by simp [stand0], by simp [stand0], by simp [stand0], fun c => ?_⟩
  have : (stand0 n carts).spots.getD c 0 = 0 := by
    unfold stand0
    dsimp only
    rw [List.getD_eq_getElem?_getD, List.getElem?_replicate]
    split <;> rfl
  omega
theorem getD_lt {l : List Nat} {n : Nat} (hn : 1 ≤ n) (h : ∀ x ∈ l, x < n) (c : Nat) : l.getD c 0 < n := by
  rw [List.getD_eq_getElem?_getD]
  cases e : l[c]? with
  | none => exact hn
  | some x => exact h x (List.mem_of_getElem? e)
theorem getD_set_lt {l : List Nat} {n i x : Nat} (hx : x < n) (h : ∀ c, l.getD c 0 < n) (c : Nat) : (l.set i x).getD c 0 < n := by
  rw [List.getD_eq_getElem?_getD, List.getElem?_set]
  split
  · split
    · exact hx
    · have := h c; simp; omega
  · rw [← List.getD_eq_getElem?_getD]
    exact h c
theorem near_lt {L : List Nat} (wf : WfL L) {p q : Nat} (hp : p < L.length + 1) (h : (isOut L p q || isBack L p q) = true) : q < L.length + 1 := by
  unfold isOut isBack at h
  simp only [Bool.or_eq_true, Bool.and_eq_true, decide_eq_true_eq] at h
  rcases h with ⟨_, h, _⟩ | ⟨h1, h2⟩
  · omega
  · have := wf (p - 1) (by omega)
    omega
theorem ok_deed {L : List Nat} (wf : WfL L) {room carts : Nat} {s s' : Stand} {d : Deed} (h : StOk (L.length + 1) carts s) (e : deedF L room s d = some s') : StOk (L.length + 1) carts s' := by
  unfold deedF at e
  obtain ⟨w, c, x⟩ := d
  cases w with
  | go =>
    dsimp only at e
    split at e
    · rename_i hc
      cases e
      have hx := near_lt wf (h.sp c) hc.1
      refine ⟨by simp [h.l1], by simp [h.l2], h.l3, ?_, ?_, getD_set_lt hx h.sp⟩
      · dsimp only; split <;> simp [addAt, h.l4]
      · dsimp only; split <;> simp [addAt, h.l5]
    · cases e
  | take =>
    dsimp only at e
    split at e
    · cases e
      refine ⟨h.l1, by simp [h.l2], ?_, h.l4, h.l5, h.sp⟩
      dsimp only; split <;> simp [h.l3]
    · cases e
  | lay =>
    dsimp only at e
    split at e
    · cases e
      refine ⟨h.l1, by simp [h.l2], ?_, h.l4, h.l5, h.sp⟩
      dsimp only; split <;> simp [addAt, h.l3]
    · cases e
theorem ok_run {L : List Nat} (wf : WfL L) {room carts : Nat} : ∀ {ds : List Deed} {i : Nat} {s s' : Stand}, StOk (L.length + 1) carts s → runF L room i s ds = .inr s' → StOk (L.length + 1) carts s'
  | [], _, _, _, h, e => by cases e; exact h
  | d :: ds, i, s, s', h, e => by
    unfold runF at e
    cases hd : deedF L room s d with
    | none => rw [hd] at e; cases e
    | some s2 =>
      rw [hd] at e
      exact ok_run wf (ok_deed wf h hd) e
theorem run_snoc {L : List Nat} {room : Nat} {d : Deed} : ∀ {ds : List Deed} {i : Nat} {s : Stand}, runF L room i s (ds ++ [d]) = match runF L room i s ds with
    | .inl j => .inl j
    | .inr s' => match deedF L room s' d with
      | none => .inl (i + ds.length)
      | some s2 => .inr s2
  | [], i, s => by
    cases hd : deedF L room s d <;> simp [runF, hd]
  | x :: ds, i, s => by
    rw [List.cons_append]
    unfold runF
    cases hd : deedF L room s x with
    | none => rfl
    | some s2 =>
      dsimp only
      rw [run_snoc (ds := ds) (i := i + 1) (s := s2)]
      cases runF L room (i + 1) s2 ds with
      | inl j => rfl
      | inr s3 =>
        dsimp only
        cases deedF L room s3 d with
        | none => dsimp only; congr 1; simp only [List.length_cons]; omega
        | some s4 => rfl
theorem run_take {L : List Nat} {room : Nat} : ∀ {ds : List Deed} {i k : Nat} {s s' : Stand}, runF L room i s ds = .inr s' → ∃ s2, runF L room i s (ds.take k) = .inr s2
  | [], i, k, s, s', h => ⟨s', by rw [List.take_nil]; exact h⟩
  | d :: ds, i, 0, s, s', h => ⟨s, rfl⟩
  | d :: ds, i, k + 1, s, s', h => by
    rw [List.take_succ_cons]
    unfold runF at h ⊢
    cases hd : deedF L room s d with
    | none => rw [hd] at h; cases h
    | some s2 =>
      rw [hd] at h
      exact run_take h
end Oat
namespace Oat
def awayN (S : Stand) : Nat := (S.spots.filter fun p => decide (p ≠ 0)).length
def metAt (W : List (Option Nat)) (S : Stand) (p : Nat) : Bool := ((W.getD p none).isNone || decide (p ∈ S.seen)) && (decide (p = 0) || decide (wantN W p ≤ ((S.stores.getD p 0 : Nat) : Int)))
def meetsB (W : List (Option Nat)) (left : Nat) (S : Stand) : Bool := decide (awayN S ≤ left) && (List.range W.length).all (metAt W S)
end Oat
namespace Oat
/-! ### no right plan takes less: what goes over each mile -/
theorem sum_upd {x : Nat} {f g : Nat → Int} (h : ∀ y, y ≠ x → g y = f y) : ∀ {l : List Nat}, l.Nodup → (l.map g).sum = (l.map f).sum + if x ∈ l then g x - f x else 0
  | [], _ => by simp
  | y :: l, nd => by
    obtain ⟨h1, h2⟩ := List.nodup_cons.mp nd
    rw [List.map_cons, List.map_cons, List.sum_cons, List.sum_cons, sum_upd h h2]
    by_cases e : y = x
    · subst e
      rw [if_neg h1, if_pos List.mem_cons_self]
      omega
    · rw [h y e]
      have : (x ∈ y :: l) ↔ x ∈ l := by
        rw [List.mem_cons]
        exact ⟨fun z => z.resolve_left fun z => e z.symm, .inr⟩
      simp only [this]
      omega
theorem getD_set (l : List Nat) (i j v : Nat) : (l.set i v).getD j 0 = if i = j ∧ i < l.length then v else l.getD j 0 := by
  rw [List.getD_eq_getElem?_getD, List.getElem?_set]
  split
  · rename_i e
    subst e
    split
    · rename_i h
      rw [if_pos ⟨rfl, h⟩]
      rfl
    · rename_i h
      rw [if_neg fun z => h z.2]
      rw [List.getD_eq_getElem?_getD, List.getElem?_eq_none (by omega)]
  · rename_i e
    rw [if_neg fun z => e z.1, List.getD_eq_getElem?_getD]
def sv (s : Stand) (p : Nat) : Int := if p = 0 then -s.taken else ((s.stores.getD p 0 : Nat) : Int)
def ldAt (s : Stand) (carts p : Nat) : Int := ((List.range carts).map fun c => if s.spots.getD c 0 = p then ((s.loads.getD c 0 : Nat) : Int) else 0).sum
def nAt (s : Stand) (carts p : Nat) : Int := ((List.range carts).map fun c => if s.spots.getD c 0 = p then (1 : Int) else 0).sum
def oI (s : Stand) (k : Nat) : Int := ((s.outs.getD k 0 : Nat) : Int)
def bI (s : Stand) (k : Nat) : Int := ((s.backs.getD k 0 : Nat) : Int)
structure Flow (L : List Nat) (room carts : Nat) (s : Stand) (In : Nat → Int) : Prop where
  ok : StOk (L.length + 1) carts s
  ld : ∀ c, s.loads.getD c 0 ≤ room
  z : In 0 = 0
  a : ∀ k, 1 ≤ k → k ≤ L.length → In k ≤ oI s k * ((room : Int) - 1) - bI s k
  b : ∀ p, p ≤ L.length → sv s p + ldAt s carts p = In p - ((kids L p).map fun j => In j + oI s j + bI s j).sum
  d : ∀ p, p ≤ L.length → nAt s carts p = (if p = 0 then (carts : Int) else oI s p - bI s p) - ((kids L p).map fun j => oI s j - bI s j).sum
  e1 : ∀ q ∈ s.seen, q = 0 ∨ 1 ≤ s.outs.getD q 0
  e2 : ∀ c, s.spots.getD c 0 ∈ s.seen
  e3 : ∀ k, 1 ≤ k → 1 ≤ s.outs.getD k 0 → L.getD (k - 1) 0 ∈ s.seen
theorem range_nd (n : Nat) : (List.range n).Nodup := List.nodup_range
theorem rep_getD (n c : Nat) : (List.replicate n 0).getD c 0 = 0 := by
  rw [List.getD_eq_getElem?_getD, List.getElem?_replicate]
  split <;> rfl
theorem sum_zero : ∀ (l : List Nat) {f : Nat → Int}, (∀ x ∈ l, f x = 0) → (l.map f).sum = 0
  | [], _, _ => rfl
  | x :: l, f, h => by
    rw [List.map_cons, List.sum_cons, h x List.mem_cons_self, sum_zero l fun y hy => h y (List.mem_cons_of_mem _ hy)]
    rfl
theorem sum_ones (carts : Nat) : ((List.range carts).map fun _ => (1 : Int)).sum = carts := by
  induction carts with
  | zero => rfl
  | succ n ih => rw [List.range_succ, List.map_append, List.map_cons, List.map_nil, sum_snocI, ih]; omega
theorem flow0 (L : List Nat) (room carts : Nat) : Flow L room carts (stand0 (L.length + 1) carts) fun _ => 0 := by
  refine ⟨ok_stand0 (by omega), fun c => ?_, rfl, fun k _ _ => ?_, fun p _ => ?_, fun p _ => ?_, fun q hq => ?_, fun c => ?_, fun k _ h => ?_⟩
  · show (List.replicate carts 0).getD c 0 ≤ room
    rw [rep_getD]; omega
  · show (0 : Int) ≤ (((List.replicate (L.length + 1) 0).getD k 0 : Nat) : Int) * _ - (((List.replicate (L.length + 1) 0).getD k 0 : Nat) : Int)
    rw [rep_getD]; omega
  · have h1 : sv (stand0 (L.length + 1) carts) p = 0 := by
      show (if p = 0 then -(0 : Int) else (((List.replicate (L.length + 1) 0).getD p 0 : Nat) : Int)) = 0
      rw [rep_getD]; split <;> rfl
    have h2 : ldAt (stand0 (L.length + 1) carts) carts p = 0 := sum_zero _ fun c _ => by
      show (if _ = p then (((List.replicate carts 0).getD c 0 : Nat) : Int) else 0) = 0
      rw [rep_getD]; split <;> rfl
    rw [h1, h2, sum_zero]
    · rfl
    · intro j _
      show (0 : Int) + (((List.replicate (L.length + 1) 0).getD j 0 : Nat) : Int) + (((List.replicate (L.length + 1) 0).getD j 0 : Nat) : Int) = 0
      rw [rep_getD]; rfl
  · have h3 : ((kids L p).map fun j => oI (stand0 (L.length + 1) carts) j - bI (stand0 (L.length + 1) carts) j).sum = 0 := sum_zero _ fun j _ => by
      show (((List.replicate (L.length + 1) 0).getD j 0 : Nat) : Int) - (((List.replicate (L.length + 1) 0).getD j 0 : Nat) : Int) = 0
      omega
    rw [h3]
    have e : ∀ c, (stand0 (L.length + 1) carts).spots.getD c 0 = 0 := fun c => rep_getD carts c
    unfold nAt
    simp only [e]
    by_cases h0 : p = 0
    · subst h0
      simp only [if_true]
      rw [sum_ones]; omega
    · rw [if_neg h0, sum_zero _ fun c _ => by rw [if_neg fun z => h0 z.symm]]
      show (0 : Int) = (((List.replicate (L.length + 1) 0).getD p 0 : Nat) : Int) - (((List.replicate (L.length + 1) 0).getD p 0 : Nat) : Int) - 0
      omega
  · left
    have : q ∈ [0] := hq
    simpa using this
  · show (List.replicate carts 0).getD c 0 ∈ [0]
    rw [rep_getD]; simp
  · exfalso
    have : 1 ≤ (List.replicate (L.length + 1) 0).getD k 0 := h
    rw [rep_getD] at this
    omega
theorem ldAt_upd {s s' : Stand} {carts c : Nat} (hc : c < carts) (hs : ∀ j, j ≠ c → s'.spots.getD j 0 = s.spots.getD j 0) (hl : ∀ j, j ≠ c → s'.loads.getD j 0 = s.loads.getD j 0) (p : Nat) :
    ldAt s' carts p = ldAt s carts p + (if s'.spots.getD c 0 = p then ((s'.loads.getD c 0 : Nat) : Int) else 0) - (if s.spots.getD c 0 = p then ((s.loads.getD c 0 : Nat) : Int) else 0) := by
  unfold ldAt
  rw [sum_upd (x := c) (f := fun c => if s.spots.getD c 0 = p then ((s.loads.getD c 0 : Nat) : Int) else 0) (fun y hy => by (try dsimp only); rw [hs y hy, hl y hy]) (range_nd carts), if_pos (List.mem_range.mpr hc)]
  omega
theorem nAt_upd {s s' : Stand} {carts c : Nat} (hc : c < carts) (hs : ∀ j, j ≠ c → s'.spots.getD j 0 = s.spots.getD j 0) (p : Nat) :
    nAt s' carts p = nAt s carts p + (if s'.spots.getD c 0 = p then (1 : Int) else 0) - (if s.spots.getD c 0 = p then (1 : Int) else 0) := by
  unfold nAt
  rw [sum_upd (x := c) (f := fun c => if s.spots.getD c 0 = p then (1 : Int) else 0) (fun y hy => by (try dsimp only); rw [hs y hy]) (range_nd carts), if_pos (List.mem_range.mpr hc)]
  omega
theorem kids_iff {L : List Nat} {x p : Nat} (h1 : 1 ≤ x) (h2 : x ≤ L.length) : x ∈ kids L p ↔ L.getD (x - 1) 0 = p := by
  rw [mem_kids]
  constructor
  · rintro ⟨i, _, h, rfl⟩; exact h
  · intro h; exact ⟨x - 1, by omega, h, by omega⟩
theorem flow_deed {L : List Nat} (wf : WfL L) {room carts : Nat} {s s' : Stand} {d : Deed} {In : Nat → Int} (hc : d.c < carts) (F : Flow L room carts s In) (e : deedF L room s d = some s') : ∃ In', Flow L room carts s' In' := by
  have ok' := ok_deed wf F.ok e
  obtain ⟨w, c, x⟩ := d
  dsimp only at hc
  have hcl : c < s.loads.length := by rw [F.ok.l2]; exact hc
  have hcs : c < s.spots.length := by rw [F.ok.l1]; exact hc
  unfold deedF at e
  cases w with
  | take =>
    dsimp only at e
    split at e
    · rename_i hh
      have e := Option.some.inj e
      have hsp : s'.spots = s.spots := by rw [← e]
      have hou : s'.outs = s.outs := by rw [← e]
      have hba : s'.backs = s.backs := by rw [← e]
      have hse : s'.seen = s.seen := by rw [← e]
      have hlo : s'.loads = s.loads.set c (s.loads.getD c 0 + x) := by rw [← e]
      have hlc : s'.loads.getD c 0 = s.loads.getD c 0 + x := by rw [hlo, getD_set, if_pos ⟨rfl, hcl⟩]
      have hln : ∀ j, j ≠ c → s'.loads.getD j 0 = s.loads.getD j 0 := fun j hj => by rw [hlo, getD_set, if_neg fun z => hj z.1.symm]
      have hsv : ∀ p, p ≤ L.length → sv s' p = sv s p - if s.spots.getD c 0 = p then (x : Int) else 0 := fun p hp => by
        unfold sv
        rw [← e]
        dsimp only
        by_cases h0 : p = 0
        · subst h0
          simp only [if_true]
          split <;> omega
        · rw [if_neg h0, if_neg h0]
          by_cases h1 : s.spots.getD c 0 = 0
          · rw [if_pos h1, if_neg fun z => h0 (by omega)]; omega
          · rw [if_neg h1, getD_set]
            by_cases h2 : s.spots.getD c 0 = p
            · rw [if_pos ⟨h2, by rw [h2, F.ok.l3]; omega⟩, if_pos h2, h2]
              have := hh.2.2.resolve_left h1
              rw [h2] at this
              omega
            · rw [if_neg fun z => h2 z.1, if_neg h2]; omega
      refine ⟨In, ok', fun j => ?_, F.z, ?_, fun p hp => ?_, fun p hp => ?_, ?_, ?_, ?_⟩
      · by_cases hj : j = c
        · subst hj; rw [hlc]; exact hh.2.1
        · rw [hln j hj]; exact F.ld j
      · unfold oI bI; rw [hou, hba]; exact F.a
      · have := F.b p hp
        unfold oI bI at this ⊢
        rw [hou, hba, hsv p hp, ldAt_upd (s := s) (s' := s') hc (fun j _ => by rw [hsp]) hln, hsp, hlc, ← this]
        split <;> omega
      · have := F.d p hp
        unfold oI bI at this ⊢
        rw [hou, hba, ← this, nAt_upd (s := s) (s' := s') hc (fun j _ => by rw [hsp]), hsp]
        omega
      · rw [hse, hou]; exact F.e1
      · rw [hse, hsp]; exact F.e2
      · rw [hse, hou]; exact F.e3
    · cases e
  | lay =>
    dsimp only at e
    split at e
    · rename_i hh
      have e := Option.some.inj e
      have hsp : s'.spots = s.spots := by rw [← e]
      have hou : s'.outs = s.outs := by rw [← e]
      have hba : s'.backs = s.backs := by rw [← e]
      have hse : s'.seen = s.seen := by rw [← e]
      have hlo : s'.loads = s.loads.set c (s.loads.getD c 0 - x) := by rw [← e]
      have hlc : s'.loads.getD c 0 = s.loads.getD c 0 - x := by rw [hlo, getD_set, if_pos ⟨rfl, hcl⟩]
      have hln : ∀ j, j ≠ c → s'.loads.getD j 0 = s.loads.getD j 0 := fun j hj => by rw [hlo, getD_set, if_neg fun z => hj z.1.symm]
      have hsv : ∀ p, p ≤ L.length → sv s' p = sv s p + if s.spots.getD c 0 = p then (x : Int) else 0 := fun p hp => by
        unfold sv
        rw [← e]
        dsimp only
        by_cases h0 : p = 0
        · subst h0
          simp only [if_true]
          split <;> omega
        · rw [if_neg h0, if_neg h0]
          by_cases h1 : s.spots.getD c 0 = 0
          · rw [if_pos h1, if_neg fun z => h0 (by omega)]; omega
          · rw [if_neg h1]
            unfold addAt
            rw [getD_set]
            by_cases h2 : s.spots.getD c 0 = p
            · rw [if_pos ⟨h2, by rw [h2, F.ok.l3]; omega⟩, if_pos h2, h2]
              omega
            · rw [if_neg fun z => h2 z.1, if_neg h2]; omega
      refine ⟨In, ok', fun j => ?_, F.z, ?_, fun p hp => ?_, fun p hp => ?_, ?_, ?_, ?_⟩
      · by_cases hj : j = c
        · subst hj; rw [hlc]; have := F.ld j; omega
        · rw [hln j hj]; exact F.ld j
      · unfold oI bI; rw [hou, hba]; exact F.a
      · have := F.b p hp
        have hx := hh.2
        unfold oI bI at this ⊢
        rw [hou, hba, hsv p hp, ldAt_upd (s := s) (s' := s') hc (fun j _ => by rw [hsp]) hln, hsp, hlc, ← this]
        split <;> omega
      · have := F.d p hp
        unfold oI bI at this ⊢
        rw [hou, hba, ← this, nAt_upd (s := s) (s' := s') hc (fun j _ => by rw [hsp]), hsp]
        omega
      · rw [hse, hou]; exact F.e1
      · rw [hse, hsp]; exact F.e2
      · rw [hse, hou]; exact F.e3
    · cases e
  | go =>
    dsimp only at e
    split at e
    · rename_i hh
      have e := Option.some.inj e
      have hsp : s'.spots = s.spots.set c x := by rw [← e]
      have hse : s'.seen = s.seen ++ [x] := by rw [← e]
      have hlo : s'.loads = s.loads.set c (s.loads.getD c 0 - 1) := by rw [← e]
      have hlc : s'.loads.getD c 0 = s.loads.getD c 0 - 1 := by rw [hlo, getD_set, if_pos ⟨rfl, hcl⟩]
      have hln : ∀ j, j ≠ c → s'.loads.getD j 0 = s.loads.getD j 0 := fun j hj => by rw [hlo, getD_set, if_neg fun z => hj z.1.symm]
      have hsc : s'.spots.getD c 0 = x := by rw [hsp, getD_set, if_pos ⟨rfl, hcs⟩]
      have hsn : ∀ j, j ≠ c → s'.spots.getD j 0 = s.spots.getD j 0 := fun j hj => by rw [hsp, getD_set, if_neg fun z => hj z.1.symm]
      have hsv : ∀ p, sv s' p = sv s p := fun p => by unfold sv; rw [← e]
      have hld' : ∀ j, s'.loads.getD j 0 ≤ room := fun j => by
        by_cases hj : j = c
        · subst hj; rw [hlc]; have := F.ld j; omega
        · rw [hln j hj]; exact F.ld j
      have hlr := F.ld c
      have hspc := F.ok.sp c
      have hne := hh.2
      generalize hH : s.spots.getD c 0 = here at *
      generalize hl : s.loads.getD c 0 = l at *
      by_cases ho : isOut L here x = true
      · have hou : s'.outs = addAt s.outs x 1 := by rw [← e]; dsimp only; rw [if_pos ho]
        have hba : s'.backs = s.backs := by rw [← e]; dsimp only; rw [if_pos ho]
        have ho2 := ho
        unfold isOut at ho2
        simp only [Bool.and_eq_true, decide_eq_true_eq] at ho2
        obtain ⟨x1, x2, x3⟩ := ho2
        have hx : here ≠ x := by have := wf (x - 1) (by omega); omega
        have hox : oI s' x = oI s x + 1 := by
          unfold oI; rw [hou]; unfold addAt; rw [getD_set, if_pos ⟨rfl, by rw [F.ok.l4]; omega⟩]; omega
        have hon : ∀ j, j ≠ x → oI s' j = oI s j := fun j hj => by
          unfold oI; rw [hou]; unfold addAt; rw [getD_set, if_neg fun z => hj z.1.symm]
        have hbn : ∀ j, bI s' j = bI s j := fun j => by unfold bI; rw [hba]
        have hoge : ∀ q, s.outs.getD q 0 ≤ s'.outs.getD q 0 := fun q => by
          rw [hou]; unfold addAt; rw [getD_set]; split
          · rename_i z; rw [z.1]; omega
          · omega
        refine ⟨fun j => if j = x then In x + ((l : Int) - 1) else In j, ok', hld', ?_, fun k k1 k2 => ?_, fun p hp => ?_, fun p hp => ?_, ?_, fun j => ?_, fun k k1 k2 => ?_⟩
        · rw [if_neg (by omega)]; exact F.z
        · by_cases hk : k = x
          · subst hk
            have := F.a k k1 k2
            rw [if_pos rfl, hox, hbn, Int.add_mul]
            omega
          · rw [if_neg hk, hon k hk, hbn]; exact F.a k k1 k2
        · have := F.b p hp
          rw [hsv, ldAt_upd hc hsn hln, hsc, hH, hlc, hl, sum_upd (x := x) (f := fun j => In j + oI s j + bI s j) (fun y hy => by (try dsimp only); rw [if_neg hy, hon y hy, hbn]) (kids_nd L p), if_pos rfl, hox, hbn]
          have hk := kids_iff (p := p) x1 x2
          rw [x3] at hk
          by_cases g1 : here = p
          · rw [if_pos g1, if_pos (hk.mpr g1), if_neg (fun z => hx (g1.trans z.symm)), if_neg (fun z => hx (g1.trans z))]
            omega
          · rw [if_neg g1, if_neg (fun z => g1 (hk.mp z))]
            by_cases g2 : x = p
            · subst g2
              rw [if_pos rfl, if_pos rfl]; omega
            · rw [if_neg g2, if_neg (fun z => g2 z.symm)]; omega
        · have := F.d p hp
          rw [nAt_upd hc hsn, hsc, hH, sum_upd (x := x) (f := fun j => oI s j - bI s j) (fun y hy => by (try dsimp only); rw [hon y hy, hbn]) (kids_nd L p), hox, hbn, hbn]
          have hk := kids_iff (p := p) x1 x2
          rw [x3] at hk
          by_cases g1 : here = p
          · rw [if_pos g1, if_pos (hk.mpr g1), if_neg (fun z => hx (g1.trans z.symm)), hon p (fun z => hx (g1.trans z))]
            omega
          · rw [if_neg g1, if_neg (fun z => g1 (hk.mp z))]
            by_cases g2 : x = p
            · subst g2
              rw [if_pos rfl, hox]
              rw [if_neg (show ¬ x = 0 by omega)] at this ⊢
              omega
            · rw [if_neg g2, hon p (fun z => g2 z.symm)]; omega
        · intro q hq
          rw [hse] at hq
          rcases List.mem_append.mp hq with hq | hq
          · rcases F.e1 q hq with z | z
            · exact .inl z
            · exact .inr (Nat.le_trans z (hoge q))
          · have : q = x := by simpa using hq
            subst this
            right
            unfold oI at hox; omega
        · rw [hse]
          by_cases hj : j = c
          · subst hj; rw [hsc]; simp
          · rw [hsn j hj]; exact List.mem_append_left _ (F.e2 j)
        · rw [hse]
          by_cases hk : k = x
          · subst hk
            rw [x3, ← hH]
            exact List.mem_append_left _ (F.e2 c)
          · have : 1 ≤ s.outs.getD k 0 := by have := hon k hk; unfold oI at this; omega
            exact List.mem_append_left _ (F.e3 k k1 this)
      · have hou : s'.outs = s.outs := by rw [← e]; dsimp only; rw [if_neg ho]
        have hba : s'.backs = addAt s.backs here 1 := by rw [← e]; dsimp only; rw [if_neg ho]
        have hb2 : isBack L here x = true := by
          have := hh.1
          rw [Bool.or_eq_true] at this
          exact this.resolve_left ho
        unfold isBack at hb2
        simp only [Bool.and_eq_true, decide_eq_true_eq] at hb2
        obtain ⟨x1, x3⟩ := hb2
        have x2 : here ≤ L.length := by omega
        have hx : here ≠ x := by have := wf (here - 1) (by omega); omega
        have hbx : bI s' here = bI s here + 1 := by
          unfold bI; rw [hba]; unfold addAt; rw [getD_set, if_pos ⟨rfl, by rw [F.ok.l5]; omega⟩]; omega
        have hbn : ∀ j, j ≠ here → bI s' j = bI s j := fun j hj => by
          unfold bI; rw [hba]; unfold addAt; rw [getD_set, if_neg fun z => hj z.1.symm]
        have hon : ∀ j, oI s' j = oI s j := fun j => by unfold oI; rw [hou]
        refine ⟨fun j => if j = here then In here - (l : Int) else In j, ok', hld', ?_, fun k k1 k2 => ?_, fun p hp => ?_, fun p hp => ?_, ?_, fun j => ?_, fun k k1 k2 => ?_⟩
        · rw [if_neg (by omega)]; exact F.z
        · by_cases hk : k = here
          · subst hk
            have := F.a k k1 k2
            rw [if_pos rfl, hbx, hon]
            omega
          · rw [if_neg hk, hon, hbn k hk]; exact F.a k k1 k2
        · have := F.b p hp
          rw [hsv, ldAt_upd hc hsn hln, hsc, hH, hlc, hl, sum_upd (x := here) (f := fun j => In j + oI s j + bI s j) (fun y hy => by (try dsimp only); rw [if_neg hy, hon, hbn y hy]) (kids_nd L p), if_pos rfl, hbx, hon]
          have hk := kids_iff (p := p) x1 x2
          rw [x3] at hk
          by_cases g1 : here = p
          · subst g1
            rw [if_pos rfl, if_pos rfl, if_neg (fun z => hx z.symm), if_neg (fun z => hx (hk.mp z).symm)]
            omega
          · rw [if_neg g1, if_neg (show ¬ p = here from fun z => g1 z.symm)]
            by_cases g2 : x = p
            · rw [if_pos g2, if_pos (hk.mpr g2)]; omega
            · rw [if_neg g2, if_neg (fun z => g2 (hk.mp z))]; omega
        · have := F.d p hp
          rw [nAt_upd hc hsn, hsc, hH, sum_upd (x := here) (f := fun j => oI s j - bI s j) (fun y hy => by (try dsimp only); rw [hon, hbn y hy]) (kids_nd L p), hbx, hon, hon]
          have hk := kids_iff (p := p) x1 x2
          rw [x3] at hk
          by_cases g1 : here = p
          · subst g1
            rw [if_pos rfl, if_neg (fun z => hx z.symm), if_neg (fun z => hx (hk.mp z).symm), hbx]
            rw [if_neg (show ¬ here = 0 by omega)] at this ⊢
            omega
          · rw [if_neg g1, hbn p (fun z => g1 z.symm)]
            by_cases g2 : x = p
            · rw [if_pos g2, if_pos (hk.mpr g2)]; omega
            · rw [if_neg g2, if_neg (fun z => g2 (hk.mp z))]; omega
        · intro q hq
          rw [hse] at hq
          rw [hou]
          rcases List.mem_append.mp hq with hq | hq
          · exact F.e1 q hq
          · have : q = x := by simpa using hq
            subst this
            have h1 := F.e2 c
            rw [hH] at h1
            have h2 := (F.e1 here h1).resolve_left (by omega)
            have h3 := F.e3 here x1 h2
            rw [x3] at h3
            exact F.e1 _ h3
        · rw [hse]
          by_cases hj : j = c
          · subst hj; rw [hsc]; simp
          · rw [hsn j hj]; exact List.mem_append_left _ (F.e2 j)
        · rw [hse]
          rw [hou] at k2
          exact List.mem_append_left _ (F.e3 k k1 k2)
    · cases e
theorem flow_run {L : List Nat} (wf : WfL L) {room carts : Nat} : ∀ {ds : List Deed} {i : Nat} {s s' : Stand} {In : Nat → Int}, (∀ d ∈ ds, d.c < carts) → Flow L room carts s In → runF L room i s ds = .inr s' → ∃ In', Flow L room carts s' In'
  | [], _, _, _, In, _, F, e => by cases e; exact ⟨In, F⟩
  | d :: ds, i, s, s', In, hc, F, e => by
    unfold runF at e
    cases hd : deedF L room s d with
    | none => rw [hd] at e; cases e
    | some s2 =>
      rw [hd] at e
      obtain ⟨In2, F2⟩ := flow_deed wf (hc d List.mem_cons_self) F hd
      exact flow_run wf (fun x hx => hc x (List.mem_cons_of_mem _ hx)) F2 e
end Oat
namespace Oat
theorem sum_le2 {f g : Nat → Int} : ∀ {l : List Nat}, (∀ x ∈ l, f x ≤ g x) → (l.map f).sum ≤ (l.map g).sum
  | [], _ => Int.le_refl _
  | x :: l, h => by
    rw [List.map_cons, List.map_cons, List.sum_cons, List.sum_cons]
    have h1 := h x List.mem_cons_self
    have h2 := sum_le2 (l := l) fun y hy => h y (List.mem_cons_of_mem _ hy)
    omega
theorem sum_nn {f : Nat → Int} {l : List Nat} (h : ∀ x ∈ l, 0 ≤ f x) : 0 ≤ (l.map f).sum := by
  have := sum_le2 (f := fun _ => 0) (g := f) h
  rw [sum_zero l fun _ _ => rfl] at this
  exact this
theorem one_le_sum {f : Nat → Int} : ∀ {l : List Nat} {x : Nat}, x ∈ l → (∀ y ∈ l, 0 ≤ f y) → f x ≤ (l.map f).sum
  | [], _, h, _ => by cases h
  | y :: l, x, h, hn => by
    rw [List.map_cons, List.sum_cons]
    have h1 := hn y List.mem_cons_self
    have h2 := sum_nn (f := f) (l := l) fun z hz => hn z (List.mem_cons_of_mem _ hz)
    rcases List.mem_cons.mp h with e | e
    · subst e; omega
    · have := one_le_sum e fun z hz => hn z (List.mem_cons_of_mem _ hz)
      omega
theorem cast_sum (e : Nat → Nat) : ∀ l : List Nat, (((l.map e).sum : Nat) : Int) = (l.map fun j => ((e j : Nat) : Int)).sum
  | [] => rfl
  | x :: l => by rw [List.map_cons, List.map_cons, List.sum_cons, List.sum_cons, Int.natCast_add, cast_sum e l]
theorem away_sum : ∀ l : List Nat, ((List.range l.length).map fun c => if l.getD c 0 = 0 then (1 : Int) else 0).sum + ((l.filter fun p => decide (p ≠ 0)).length : Nat) = (l.length : Nat)
  | [] => rfl
  | x :: l => by
    rw [List.length_cons, List.range_succ_eq_map, List.map_cons, List.sum_cons, List.map_map]
    have ih := away_sum l
    have e : ((fun c => if (x :: l).getD c 0 = 0 then (1 : Int) else 0) ∘ Nat.succ) = fun c => if l.getD c 0 = 0 then (1 : Int) else 0 := by
      funext c
      show (if (x :: l).getD (c + 1) 0 = 0 then (1 : Int) else 0) = _
      rw [List.getD_cons_succ]
    rw [e, List.getD_cons_zero, List.filter_cons]
    by_cases hx : x = 0
    · subst hx
      simp only [ne_eq, not_true_eq_false, decide_false, if_true]
      simp only [ne_eq] at ih
      simp only [Bool.false_eq_true, if_false]
      omega
    · simp only [ne_eq, hx, not_false_eq_true, decide_true, if_true, if_false, List.length_cons]
      simp only [ne_eq] at ih
      omega
theorem away_nAt {s : Stand} {n carts : Nat} (h : StOk n carts s) : nAt s carts 0 + (awayN s : Nat) = (carts : Nat) := by
  have := away_sum s.spots
  rw [h.l1] at this
  exact this
theorem ldAt_nn (s : Stand) (carts p : Nat) : 0 ≤ ldAt s carts p := sum_nn fun c _ => by split <;> omega
theorem nAt_nn (s : Stand) (carts p : Nat) : 0 ≤ nAt s carts p := sum_nn fun c _ => by split <;> omega
section
variable {L : List Nat} {room carts : Nat} {s : Stand} {In : Nat → Int}
theorem flow_e (wf : WfL L) (F : Flow L room carts s In) : ∀ (m p : Nat), L.length < m + p → 1 ≤ p → p ≤ L.length → 0 ≤ oI s p - bI s p
  | 0, p, h, h1, hp => by omega
  | m + 1, p, h, h1, hp => by
    have hd := F.d p hp
    rw [if_neg (show ¬ p = 0 by omega)] at hd
    have h2 := nAt_nn s carts p
    have h3 := sum_nn (f := fun j => oI s j - bI s j) (l := kids L p) fun j hj => by
      have := kids_gt wf hj
      exact flow_e wf F m j (by omega) (by omega) (by omega)
    omega
theorem flow_e0 (wf : WfL L) (F : Flow L room carts s In) {p : Nat} (h1 : 1 ≤ p) (hp : p ≤ L.length) : 0 ≤ oI s p - bI s p := flow_e wf F (L.length + 1) p (by omega) h1 hp
theorem flow_away (F : Flow L room carts s In) : ((kids L 0).map fun j => oI s j - bI s j).sum = (awayN s : Nat) := by
  have h1 := F.d 0 (Nat.zero_le _)
  rw [if_pos rfl] at h1
  have h2 := away_nAt F.ok
  omega
theorem flow_le (wf : WfL L) (F : Flow L room carts s In) : ∀ (m p : Nat), p ≤ m → 1 ≤ p → p ≤ L.length → oI s p - bI s p ≤ (awayN s : Nat)
  | 0, p, h, h1, hp => by omega
  | m + 1, p, h, h1, hp => by
    have hk : p ∈ kids L (L.getD (p - 1) 0) := (kids_iff h1 hp).mpr rfl
    have hq := kids_gt wf hk
    have h2 := one_le_sum (f := fun j => oI s j - bI s j) hk fun j hj => by
      have := kids_gt wf hj
      exact flow_e0 wf F (by omega) (by omega)
    generalize L.getD (p - 1) 0 = q at hk hq h2
    by_cases h0 : q = 0
    · subst h0
      have := flow_away F
      omega
    · have h3 := flow_le wf F m q (by omega) (by omega) (by omega)
      have hd := F.d q (by omega)
      rw [if_neg h0] at hd
      have h4 := nAt_nn s carts q
      omega
theorem flow_wanted {W : List (Option Nat)} (wf : WfL L) (F : Flow L room carts s In) (hs : ∀ p, p ≤ L.length → (W.getD p none).isSome = true → p ∈ s.seen) : ∀ (m p : Nat), L.length < m + p → 1 ≤ p → p ≤ L.length → wanted L W p = true → 1 ≤ s.outs.getD p 0
  | 0, p, h, h1, hp => by omega
  | m + 1, p, h, h1, hp => by
    intro hw
    rw [wanted_eq wf hp, Bool.or_eq_true] at hw
    have key : p ∈ s.seen := by
      rcases hw with hw | hw
      · exact hs p hp hw
      · obtain ⟨j, hj, hw⟩ := List.any_eq_true.mp hw
        have hk := kids_gt wf hj
        have h3 := F.e3 j (by omega) (flow_wanted wf F hs m j (by omega) (by omega) (by omega) hw)
        rw [(kids_iff (by omega) (by omega)).mp hj] at h3
        exact h3
    exact (F.e1 p key).resolve_left (by omega)
end
theorem parts_of {c : Case} {e : Nat → Nat} {T : Nat → Int} : ∀ (ks : List Nat) {ts : List (List (Nat × Int))} {part : List Nat} {s : Int} {n : Nat}, Parts ts part s n → (∀ j ∈ ks, ∃ v, (e j, v) ∈ takes (tab c j) ∧ v ≤ T j) →
    ∃ part' s', Parts (ts ++ ks.map fun k => takes (tab c k)) part' s' (n + (ks.map e).sum) ∧ s' ≤ s + (ks.map T).sum
  | [], ts, part, s, n, P, _ => ⟨part, s, by simpa using P, by simp⟩
  | k :: ks, ts, part, s, n, P, h => by
    obtain ⟨v, hv, hle⟩ := h k List.mem_cons_self
    obtain ⟨part', s', h1, h2⟩ := parts_of ks (P.snoc hv) fun j hj => h j (List.mem_cons_of_mem _ hj)
    refine ⟨part', s', ?_, ?_⟩
    · rw [List.append_assoc] at h1
      rw [List.map_cons, List.map_cons, List.sum_cons, ← Nat.add_assoc]
      exact h1
    · rw [List.map_cons, List.sum_cons]
      omega
section
variable {c : Case} {carts : Nat} {s : Stand} {In : Nat → Int}
def eN (s : Stand) (j : Nat) : Nat := (oI s j - bI s j).toNat
def tI (s : Stand) (In : Nat → Int) (j : Nat) : Int := In j + oI s j + bI s j
theorem flow_best (wf : WfL c.L) (F : Flow c.L c.room carts s In) {p e : Nat} (hp : p ≤ c.L.length) (ih : ∀ j ∈ kids c.L p, ∃ v, (eN s j, v) ∈ takes (tab c j) ∧ v ≤ tI s In j) (he : ((kids c.L p).map fun j => oI s j - bI s j).sum ≤ (e : Nat)) :
    ∃ b, best ((kids c.L p).map fun k => takes (tab c k)) e = some b ∧ b.1 ≤ ((kids c.L p).map (tI s In)).sum := by
  obtain ⟨part, s', h1, h2⟩ := parts_of (kids c.L p) .nil ih
  rw [List.nil_append, Nat.zero_add] at h1
  have hn : ((kids c.L p).map (eN s)).sum ≤ e := by
    have h3 := cast_sum (eN s) (kids c.L p)
    have h4 : ((kids c.L p).map fun j => ((eN s j : Nat) : Int)) = (kids c.L p).map fun j => oI s j - bI s j := List.map_congr_left fun j hj => by
      have := kids_gt wf hj
      have := flow_e0 wf F (p := j) (by omega) (by omega)
      unfold eN
      omega
    rw [h4] at h3
    omega
  obtain ⟨b, hb, hle⟩ := best_le h1 hn
  exact ⟨b, hb, by omega⟩
theorem flow_low (wf : WfL c.L) (h2 : 2 ≤ c.room) (F : Flow c.L c.room carts s In) (hw : ∀ p, 1 ≤ p → p ≤ c.L.length → wantN c.W p ≤ ((s.stores.getD p 0 : Nat) : Int)) (hs : ∀ p, p ≤ c.L.length → (c.W.getD p none).isSome = true → p ∈ s.seen) (ha : awayN s ≤ c.left) :
    ∀ (m p : Nat), c.L.length < m + p → 1 ≤ p → p ≤ c.L.length → ∃ v, (eN s p, v) ∈ takes (tab c p) ∧ v ≤ tI s In p
  | 0, p, h, h1, hp => by omega
  | m + 1, p, h, h1, hp => by
    have ih : ∀ j ∈ kids c.L p, ∃ v, (eN s j, v) ∈ takes (tab c j) ∧ v ≤ tI s In j := fun j hj => by
      have := kids_gt wf hj
      exact flow_low wf h2 F hw hs ha m j (by omega) (by omega) (by omega)
    have e0 := flow_e0 wf F h1 hp
    have ee : ((eN s p : Nat) : Int) = oI s p - bI s p := by unfold eN; omega
    have hd := F.d p hp
    rw [if_neg (show ¬ p = 0 by omega)] at hd
    have hn := nAt_nn s carts p
    obtain ⟨b, hb, hble⟩ := flow_best wf F hp ih (e := eN s p) (by omega)
    have hel : eN s p ≤ c.left := by
      have := flow_le wf F p p (Nat.le_refl _) h1 hp
      omega
    have hbb := F.b p hp
    have hsv : sv s p = ((s.stores.getD p 0 : Nat) : Int) := by unfold sv; rw [if_neg (by omega)]
    have hl := ldAt_nn s carts p
    have hwp := hw p h1 hp
    have hT : ((kids c.L p).map fun j => In j + oI s j + bI s j).sum = ((kids c.L p).map (tI s In)).sum := rfl
    rw [hT, hsv] at hbb
    have hb0 : 0 ≤ oI s p ∧ 0 ≤ bI s p := by unfold oI bI; omega
    have hTn : 0 ≤ ((kids c.L p).map (tI s In)).sum := sum_nn fun j hj => by
      have hk := kids_gt wf hj
      obtain ⟨v, hv, hle⟩ := ih j hj
      have := tab_nn wf h2 (c.L.length + 1) j (by omega) (by omega) _ _ hv
      omega
    have hwn := wantN_nn c.W p
    have hrow : ∃ r, takenOf c p (b.1 + wantN c.W p, b.2) (eN s p) = some r ∧ r.tk ≤ tI s In p := by
      unfold takenOf
      rw [if_neg (show ¬ p = 0 by omega)]
      split
      · refine ⟨_, rfl, ?_⟩
        show (0 : Int) ≤ In p + oI s p + bI s p
        omega
      · rename_i hz
        have ho1 : ((max (eN s p) 1 : Nat) : Int) ≤ oI s p := by
          by_cases he : eN s p = 0
          · have hwd : wanted c.L c.W p = true := by
              cases hq : wanted c.L c.W p with
              | true => rfl
              | false => exact absurd ⟨he, hq⟩ hz
            have := flow_wanted wf F hs (c.L.length + 1) p (by omega) h1 hp hwd
            unfold oI
            rw [he]
            omega
          · omega
        have ha1 := F.a p h1 hp
        have ho2 : b.1 + wantN c.W p ≤ oI s p * ((c.room : Int) - 2) + (eN s p : Nat) := by
          have : oI s p * ((c.room : Int) - 1) = oI s p * ((c.room : Int) - 2) + oI s p := by
            rw [show (c.room : Int) - 1 = ((c.room : Int) - 2) + 1 by omega, Int.mul_add, Int.mul_one]
          omega
        obtain ⟨o, ho, hole⟩ := outF_ex h2 ho1 ho2
        rw [ho]
        refine ⟨_, rfl, ?_⟩
        show b.1 + wantN c.W p + 2 * o - ((eN s p : Nat) : Int) ≤ In p + oI s p + bI s p
        omega
    obtain ⟨r, hr, hrle⟩ := hrow
    refine ⟨r.tk, mem_takes.mpr ⟨r, (mem_tab wf hp).mpr ⟨hel, (row_of hb).trans hr⟩, rfl⟩, hrle⟩
/-- no right plan takes less -/
theorem right_least {ds : List Deed} (wf : WfL c.L) (h2 : 2 ≤ c.room) (hc : ∀ d ∈ ds, d.c < carts) (hr : standF c.L c.room carts ds = .inr s) (hm : meetsB c.W c.left s = true) (hl : c.W.length = c.L.length + 1) :
    ∃ v, least c = some v ∧ v ≤ s.taken + wantN c.W 0 := by
  obtain ⟨In, F⟩ := flow_run wf hc (flow0 c.L c.room carts) hr
  unfold meetsB at hm
  rw [Bool.and_eq_true, decide_eq_true_eq] at hm
  obtain ⟨ha, hm⟩ := hm
  have hmet : ∀ p, p ≤ c.L.length → metAt c.W s p = true := fun p hp => List.all_eq_true.mp hm p (List.mem_range.mpr (by omega))
  have hw : ∀ p, 1 ≤ p → p ≤ c.L.length → wantN c.W p ≤ ((s.stores.getD p 0 : Nat) : Int) := fun p h1 hp => by
    have := hmet p hp
    unfold metAt at this
    simp only [Bool.and_eq_true, Bool.or_eq_true, decide_eq_true_eq] at this
    exact this.2.resolve_left (by omega)
  have hs : ∀ p, p ≤ c.L.length → (c.W.getD p none).isSome = true → p ∈ s.seen := fun p hp hq => by
    have := hmet p hp
    unfold metAt at this
    simp only [Bool.and_eq_true, Bool.or_eq_true, decide_eq_true_eq] at this
    refine this.1.resolve_left fun z => ?_
    cases hx : c.W.getD p none with
    | none => rw [hx] at hq; cases hq
    | some u => rw [hx] at z; cases z
  have ih : ∀ j ∈ kids c.L 0, ∃ v, (eN s j, v) ∈ takes (tab c j) ∧ v ≤ tI s In j := fun j hj => by
    have := kids_gt wf hj
    exact flow_low wf h2 F hw hs ha (c.L.length + 1) j (by omega) (by omega) (by omega)
  obtain ⟨b, hb, hble⟩ := flow_best wf F (Nat.zero_le _) ih (e := awayN s) (by rw [flow_away F]; exact Int.le_refl _)
  have hrow : takenOf c 0 (b.1 + wantN c.W 0, b.2) (awayN s) = some ⟨b.1 + wantN c.W 0, 0, 0, b.2⟩ := by unfold takenOf; rw [if_pos rfl]
  have hmem := (mem_tab wf (p := 0) (Nat.zero_le _)).mpr ⟨ha, (row_of (c := c) (p := 0) hb).trans hrow⟩
  have hbb := F.b 0 (Nat.zero_le _)
  have hsv : sv s 0 = -s.taken := by unfold sv; rw [if_pos rfl]
  have hld := ldAt_nn s carts 0
  rw [hsv, F.z] at hbb
  have hT : ((kids c.L 0).map fun j => In j + oI s j + bI s j).sum = ((kids c.L 0).map (tI s In)).sum := rfl
  rw [hT] at hbb
  cases hle : least c with
  | none =>
    exfalso
    unfold least bestL at hle
    have : takes (tab c 0) ≠ [] := fun z => by
      have := mem_takes.mpr ⟨_, hmem, rfl⟩
      rw [z] at this
      cases this
    split at hle
    · rename_i z; exact this z
    · cases hle
  | some v =>
    refine ⟨v, rfl, ?_⟩
    have := (least_iff.mp hle).2 _ _ hmem
    dsimp only at this
    omega
end
end Oat
namespace Oat
/-! ### runs, deed by deed -/
def Run (L : List Nat) (room : Nat) (s : Stand) (ds : List Deed) (s' : Stand) : Prop := ∀ i, runF L room i s ds = .inr s'
section
variable {L : List Nat} {room N : Nat} {s s' s1 s2 : Stand}
theorem Run.nil : Run L room s [] s := fun _ => rfl
theorem Run.cons {d : Deed} {ds : List Deed} (h : deedF L room s d = some s1) (h2 : Run L room s1 ds s2) : Run L room s (d :: ds) s2 := fun i => by
  unfold runF
  rw [h]
  exact h2 (i + 1)
theorem Run.app : ∀ {ds es : List Deed} {s s1 s2 : Stand}, Run L room s ds s1 → Run L room s1 es s2 → Run L room s (ds ++ es) s2
  | [], es, s, s1, s2, h1, h2 => by
    have : s = s1 := Sum.inr.inj (h1 0)
    subst this
    exact h2
  | d :: ds, es, s, s1, s2, h1, h2 => by
    rw [List.cons_append]
    cases hd : deedF L room s d with
    | none =>
      have := h1 0
      unfold runF at this
      rw [hd] at this
      cases this
    | some s3 =>
      refine Run.cons hd (Run.app (s := s3) (s1 := s1) (fun i => ?_) h2)
      have h3 := fun j => h1 j
      cases i with
      | zero =>
        have h4 := run_index (L := L) (room := room) (ds := ds) (s := s3) (s' := s1) 1 0
        have h5 := h1 0
        unfold runF at h5
        rw [hd] at h5
        exact h4 h5
      | succ i =>
        have h5 := h1 i
        unfold runF at h5
        rw [hd] at h5
        exact h5
where run_index {L : List Nat} {room : Nat} : ∀ {ds : List Deed} {s s' : Stand} (i j : Nat), runF L room i s ds = .inr s' → runF L room j s ds = .inr s'
  | [], s, s', i, j, h => h
  | d :: ds, s, s', i, j, h => by
    unfold runF at h ⊢
    cases hd : deedF L room s d with
    | none => rw [hd] at h; cases h
    | some s2 =>
      rw [hd] at h
      exact run_index (i + 1) (j + 1) h
/-- ready: all loads are laid -/
structure Rdy (L : List Nat) (N : Nat) (s : Stand) : Prop where
  ok : StOk (L.length + 1) N s
  ld : ∀ c, s.loads.getD c 0 = 0
theorem do_take {c x : Nat} (wf : WfL L) (ok : StOk (L.length + 1) N s) (hc : c < N) (h1 : 1 ≤ x) (h2 : s.loads.getD c 0 + x ≤ room) (h3 : s.spots.getD c 0 = 0 ∨ (x : Int) ≤ sv s (s.spots.getD c 0)) :
    ∃ s', deedF L room s ⟨.take, c, x⟩ = some s' ∧ StOk (L.length + 1) N s' ∧ (∀ j, s'.spots.getD j 0 = s.spots.getD j 0) ∧ (∀ j, s'.loads.getD j 0 = if j = c then s.loads.getD c 0 + x else s.loads.getD j 0) ∧ (∀ p, p ≤ L.length → sv s' p = sv s p - if s.spots.getD c 0 = p then (x : Int) else 0) ∧ s'.seen = s.seen := by
  have hcl : c < s.loads.length := by rw [ok.l2]; exact hc
  have hq : 1 ≤ x ∧ s.loads.getD c 0 + x ≤ room ∧ (s.spots.getD c 0 = 0 ∨ x ≤ s.stores.getD (s.spots.getD c 0) 0) := by
    refine ⟨h1, h2, ?_⟩
    rcases h3 with h3 | h3
    · exact .inl h3
    · by_cases h0 : s.spots.getD c 0 = 0
      · exact .inl h0
      · right
        unfold sv at h3
        rw [if_neg h0] at h3
        omega
  have e : deedF L room s ⟨.take, c, x⟩ = some { s with
        loads := s.loads.set c (s.loads.getD c 0 + x)
        stores := if s.spots.getD c 0 = 0 then s.stores else s.stores.set (s.spots.getD c 0) (s.stores.getD (s.spots.getD c 0) 0 - x)
        taken := if s.spots.getD c 0 = 0 then s.taken + x else s.taken } := by
    unfold deedF
    dsimp only
    rw [if_pos hq]
  refine ⟨_, e, ok_deed wf ok e, fun _ => rfl, fun j => ?_, fun p hp => ?_, rfl⟩
  · dsimp only
    rw [getD_set]
    by_cases hj : j = c
    · subst hj; rw [if_pos ⟨rfl, hcl⟩, if_pos rfl]
    · rw [if_neg fun z => hj z.1.symm, if_neg hj]
  · unfold sv
    dsimp only
    by_cases h0 : p = 0
    · subst h0
      simp only [if_true]
      split <;> omega
    · rw [if_neg h0, if_neg h0]
      by_cases g1 : s.spots.getD c 0 = 0
      · rw [if_pos g1, if_neg fun z => h0 (by omega)]; omega
      · rw [if_neg g1, getD_set]
        by_cases g2 : s.spots.getD c 0 = p
        · rw [if_pos ⟨g2, by rw [g2, ok.l3]; omega⟩, if_pos g2, g2]
          have := hq.2.2.resolve_left g1
          rw [g2] at this
          omega
        · rw [if_neg fun z => g2 z.1, if_neg g2]; omega
theorem do_lay {c x : Nat} (wf : WfL L) (ok : StOk (L.length + 1) N s) (hc : c < N) (h1 : 1 ≤ x) (h2 : x ≤ s.loads.getD c 0) :
    ∃ s', deedF L room s ⟨.lay, c, x⟩ = some s' ∧ StOk (L.length + 1) N s' ∧ (∀ j, s'.spots.getD j 0 = s.spots.getD j 0) ∧ (∀ j, s'.loads.getD j 0 = if j = c then s.loads.getD c 0 - x else s.loads.getD j 0) ∧ (∀ p, p ≤ L.length → sv s' p = sv s p + if s.spots.getD c 0 = p then (x : Int) else 0) ∧ s'.seen = s.seen := by
  have hcl : c < s.loads.length := by rw [ok.l2]; exact hc
  have e : deedF L room s ⟨.lay, c, x⟩ = some { s with
        loads := s.loads.set c (s.loads.getD c 0 - x)
        stores := if s.spots.getD c 0 = 0 then s.stores else addAt s.stores (s.spots.getD c 0) x
        taken := if s.spots.getD c 0 = 0 then s.taken - x else s.taken } := by
    unfold deedF
    dsimp only
    rw [if_pos ⟨h1, h2⟩]
  refine ⟨_, e, ok_deed wf ok e, fun _ => rfl, fun j => ?_, fun p hp => ?_, rfl⟩
  · dsimp only
    rw [getD_set]
    by_cases hj : j = c
    · subst hj; rw [if_pos ⟨rfl, hcl⟩, if_pos rfl]
    · rw [if_neg fun z => hj z.1.symm, if_neg hj]
  · unfold sv
    dsimp only
    by_cases h0 : p = 0
    · subst h0
      simp only [if_true]
      split <;> omega
    · rw [if_neg h0, if_neg h0]
      by_cases g1 : s.spots.getD c 0 = 0
      · rw [if_pos g1, if_neg fun z => h0 (by omega)]; omega
      · rw [if_neg g1]
        unfold addAt
        rw [getD_set]
        by_cases g2 : s.spots.getD c 0 = p
        · rw [if_pos ⟨g2, by rw [g2, ok.l3]; omega⟩, if_pos g2, g2]
          omega
        · rw [if_neg fun z => g2 z.1, if_neg g2]; omega
theorem do_go {c x : Nat} (wf : WfL L) (ok : StOk (L.length + 1) N s) (hc : c < N) (h1 : (isOut L (s.spots.getD c 0) x || isBack L (s.spots.getD c 0) x) = true) (h2 : s.loads.getD c 0 ≠ 0) :
    ∃ s', deedF L room s ⟨.go, c, x⟩ = some s' ∧ StOk (L.length + 1) N s' ∧ (∀ j, s'.spots.getD j 0 = if j = c then x else s.spots.getD j 0) ∧ (∀ j, s'.loads.getD j 0 = if j = c then s.loads.getD c 0 - 1 else s.loads.getD j 0) ∧ (∀ p, sv s' p = sv s p) ∧ s'.seen = s.seen ++ [x] := by
  have hcl : c < s.loads.length := by rw [ok.l2]; exact hc
  have hcs : c < s.spots.length := by rw [ok.l1]; exact hc
  cases e : deedF L room s ⟨.go, c, x⟩ with
  | none =>
    unfold deedF at e
    dsimp only at e
    rw [if_pos ⟨h1, h2⟩] at e
    cases e
  | some s' =>
    have ok' := ok_deed wf ok e
    unfold deedF at e
    dsimp only at e
    rw [if_pos ⟨h1, h2⟩] at e
    have e := Option.some.inj e
    refine ⟨s', rfl, ok', fun j => ?_, fun j => ?_, fun p => ?_, ?_⟩
    · rw [← e]
      dsimp only
      rw [getD_set]
      by_cases hj : j = c
      · subst hj; rw [if_pos ⟨rfl, hcs⟩, if_pos rfl]
      · rw [if_neg fun z => hj z.1.symm, if_neg hj]
    · rw [← e]
      dsimp only
      rw [getD_set]
      by_cases hj : j = c
      · subst hj; rw [if_pos ⟨rfl, hcl⟩, if_pos rfl]
      · rw [if_neg fun z => hj z.1.symm, if_neg hj]
    · unfold sv; rw [← e]
    · rw [← e]
end
/-! ### the maker's deeds -/
def addD (w : DW) (c x : Nat) : List Deed := if x = 0 then [] else [⟨w, c, x⟩]
def goD (c x : Nat) : Deed := ⟨.go, c, x⟩
/-- so many turns left, so much to be brought -/
def bringF (room k ahead : Nat) (carts : List Nat) : Nat → Nat → List Deed
  | 0, _ => []
  | r + 1, rest =>
    if r + 1 ≤ carts.length then
      addD .take (carts.getD (carts.length - (r + 1)) 0) (min room (rest - r)) ++ goD (carts.getD (carts.length - (r + 1)) 0) k :: (addD .lay (carts.getD (carts.length - (r + 1)) 0) (min room (rest - r) - 1) ++ bringF room k ahead carts r (rest - min room (rest - r)))
    else
      addD .take (carts.getD 0 0) (min room (rest - r)) ++ goD (carts.getD 0 0) k :: (addD .lay (carts.getD 0 0) (min room (rest - r) - 2) ++ goD (carts.getD 0 0) ahead :: bringF room k ahead carts r (rest - min room (rest - r)))
section
variable {L : List Nat} {room N : Nat} {s : Stand}
theorem isOut_kid {k : Nat} (h1 : 1 ≤ k) (h2 : k ≤ L.length) : isOut L (L.getD (k - 1) 0) k = true := by
  unfold isOut
  simp [h1, h2]
theorem isBack_kid {k : Nat} (h1 : 1 ≤ k) : isBack L k (L.getD (k - 1) 0) = true := by
  unfold isBack
  simp [h1]
/-- a turn out: take, go, lay all but b (0 or 1) -/
theorem trip {k c u b : Nat} (wf : WfL L) (k1 : 1 ≤ k) (k2 : k ≤ L.length) (R : Rdy L N s) (hc : c < N) (hs : s.spots.getD c 0 = L.getD (k - 1) 0) (hu : b + 1 ≤ u) (hr : u ≤ room) (hb : b ≤ 1) (hv : L.getD (k - 1) 0 = 0 ∨ (u : Int) ≤ sv s (L.getD (k - 1) 0)) :
    ∃ s', Run L room s (addD .take c u ++ goD c k :: addD .lay c (u - (b + 1))) s' ∧ StOk (L.length + 1) N s' ∧ (∀ j, s'.spots.getD j 0 = if j = c then k else s.spots.getD j 0) ∧ (∀ j, s'.loads.getD j 0 = if j = c then b else 0) ∧
      (∀ p, p ≤ L.length → sv s' p = sv s p - (if L.getD (k - 1) 0 = p then (u : Int) else 0) + (if k = p then (u : Int) - (b + 1) else 0)) ∧ s'.seen = s.seen ++ [k] := by
  have hne : ¬ u = 0 := by omega
  unfold addD
  rw [if_neg hne]
  obtain ⟨s1, e1, ok1, sp1, ld1, sv1, se1⟩ := do_take (room := room) (x := u) wf R.ok hc (by omega) (by rw [R.ld]; omega) (by rw [hs]; exact hv)
  rw [R.ld] at ld1
  have hl1 : s1.loads.getD c 0 = u := by rw [ld1, if_pos rfl]; omega
  obtain ⟨s2, e2, ok2, sp2, ld2, sv2, se2⟩ := do_go (room := room) (x := k) wf ok1 hc (by rw [sp1, hs, isOut_kid k1 k2]; rfl) (by rw [hl1]; exact hne)
  rw [hl1] at ld2
  have hl2 : s2.loads.getD c 0 = u - 1 := by rw [ld2, if_pos rfl]
  have hs2 : s2.spots.getD c 0 = k := by rw [sp2, if_pos rfl]
  have hsv2 : ∀ p, p ≤ L.length → sv s2 p = sv s p - (if L.getD (k - 1) 0 = p then (u : Int) else 0) := fun p hp => by rw [sv2, sv1 p hp, hs]
  by_cases hz : u - (b + 1) = 0
  · rw [if_pos hz]
    refine ⟨s2, Run.app (Run.cons e1 Run.nil) (Run.cons e2 Run.nil), ok2, fun j => by rw [sp2, sp1], fun j => ?_, fun p hp => ?_, by rw [se2, se1]⟩
    · rw [ld2, ld1, R.ld]
      split
      · omega
      · rfl
    · rw [hsv2 p hp]
      split <;> split <;> omega
  · rw [if_neg hz]
    obtain ⟨s3, e3, ok3, sp3, ld3, sv3, se3⟩ := do_lay (room := room) (x := u - (b + 1)) wf ok2 hc (by omega) (by rw [hl2]; omega)
    rw [hl2] at ld3
    refine ⟨s3, Run.app (Run.cons e1 Run.nil) (Run.cons e2 (Run.cons e3 Run.nil)), ok3, fun j => by rw [sp3, sp2, sp1], fun j => ?_, fun p hp => ?_, by rw [se3, se2, se1]⟩
    · rw [ld3, ld2, ld1, R.ld]
      split
      · omega
      · rfl
    · rw [sv3 p hp, hsv2 p hp, hs2]
      split <;> split <;> omega
/-- back over a mile with one unit borne -/
theorem trip_back {k c : Nat} (wf : WfL L) (k1 : 1 ≤ k) (ok : StOk (L.length + 1) N s) (hl : ∀ j, s.loads.getD j 0 = if j = c then 1 else 0) (hc : c < N) (hs : s.spots.getD c 0 = k) :
    ∃ s', Run L room s [goD c (L.getD (k - 1) 0)] s' ∧ Rdy L N s' ∧ (∀ j, s'.spots.getD j 0 = if j = c then L.getD (k - 1) 0 else s.spots.getD j 0) ∧ (∀ p, sv s' p = sv s p) ∧ s'.seen = s.seen ++ [L.getD (k - 1) 0] := by
  have hl1 : s.loads.getD c 0 = 1 := by rw [hl, if_pos rfl]
  obtain ⟨s1, e1, ok1, sp1, ld1, sv1, se1⟩ := do_go (room := room) (x := L.getD (k - 1) 0) wf ok hc (by rw [hs, isBack_kid k1, Bool.or_true]) (by rw [hl1]; omega)
  refine ⟨s1, Run.cons e1 Run.nil, ⟨ok1, fun j => ?_⟩, sp1, sv1, se1⟩
  rw [ld1, hl1, hl]
  split <;> rfl
theorem getD_mem {l : List Nat} {i : Nat} (h : i < l.length) : l.getD i 0 ∈ l := by
  rw [List.getD_eq_getElem?_getD, List.getElem?_eq_getElem h]
  exact List.getElem_mem h
theorem getD_inj {l : List Nat} (nd : l.Nodup) {i j : Nat} (hi : i < l.length) (hj : j < l.length) (h : l.getD i 0 = l.getD j 0) : i = j := by
  rw [List.getD_eq_getElem?_getD, List.getD_eq_getElem?_getD, List.getElem?_eq_getElem hi, List.getElem?_eq_getElem hj] at h
  exact (List.getElem?_inj hi nd).mp (by rw [List.getElem?_eq_getElem hi, List.getElem?_eq_getElem hj]; exact congrArg some h)
theorem bring_ok {k : Nat} {carts : List Nat} (wf : WfL L) (k1 : 1 ≤ k) (k2 : k ≤ L.length) (h2 : 2 ≤ room) (nd : carts.Nodup) (hm : 1 ≤ carts.length) (hN : ∀ x ∈ carts, x < N) : ∀ (r rest : Nat) (s : Stand), Rdy L N s →
    (∀ i, i < carts.length → s.spots.getD (carts.getD i 0) 0 = if i + r < carts.length then k else L.getD (k - 1) 0) → r ≤ rest → rest ≤ r * room → (carts.length < r → (r - 1) * room + 3 ≤ rest ∧ 3 ≤ room) → (L.getD (k - 1) 0 = 0 ∨ (rest : Int) ≤ sv s (L.getD (k - 1) 0)) →
    ∃ s', Run L room s (bringF room k (L.getD (k - 1) 0) carts r rest) s' ∧ Rdy L N s' ∧ (∀ j, s'.spots.getD j 0 = if j ∈ carts then k else s.spots.getD j 0) ∧
      (∀ p, p ≤ L.length → sv s' p = sv s p - (if L.getD (k - 1) 0 = p then (rest : Int) else 0) + (if k = p then (rest : Int) - 2 * (r : Int) + ((min r carts.length : Nat) : Int) else 0)) ∧ (∀ q ∈ s.seen, q ∈ s'.seen) ∧ (1 ≤ r → k ∈ s'.seen) ∧
      (bringF room k (L.getD (k - 1) 0) carts r rest).length + min r carts.length ≤ 4 * r ∧ ∀ d ∈ bringF room k (L.getD (k - 1) 0) carts r rest, d.c < N
  | 0, rest, s, R, hs, h1, hle, _, _ => by
    have h0 : rest = 0 := by omega
    subst h0
    refine ⟨s, Run.nil, R, fun j => ?_, fun p hp => ?_, fun q h => h, by omega, by simp [bringF], by simp [bringF]⟩
    · split
      · rename_i hj
        obtain ⟨i, hi, e⟩ := List.mem_iff_getElem.mp hj
        have := hs i hi
        have e2 : carts.getD i 0 = j := by rw [List.getD_eq_getElem?_getD, List.getElem?_eq_getElem hi]; exact e
        rw [if_pos (by omega), e2] at this
        exact this
      · rfl
    · simp
  | r + 1, rest, s, R, hs, h1, hle, hbig, hv => by
    have hpk : L.getD (k - 1) 0 ≠ k := by have := wf (k - 1) (by omega); omega
    have hu1 : 1 ≤ min room (rest - r) := by omega
    have hrest : rest ≤ room + r * room := by rw [Nat.succ_mul] at hle; omega
    have hrr : r ≤ r * room := Nat.le_mul_of_pos_right r (by omega)
    by_cases hst : r + 1 ≤ carts.length
    · have hi : carts.length - (r + 1) < carts.length := by omega
      generalize hI : carts.length - (r + 1) = i0 at hi
      have hcm := getD_mem hi
      have hcN := hN _ hcm
      have hsc := hs i0 hi
      rw [if_neg (by omega)] at hsc
      have hun : min room (rest - r) ≤ rest := by omega
      unfold bringF
      rw [if_pos hst, hI]
      generalize hc : carts.getD i0 0 = c at hcm hcN hsc
      generalize hu : min room (rest - r) = u at *
      obtain ⟨s1, run1, ok1, sp1, ld1, sv1, se1⟩ := trip (room := room) (k := k) (c := c) (u := u) (b := 0) wf k1 k2 R hcN hsc (by omega) (by omega) (by omega) (by
        rcases hv with z | z
        · exact .inl z
        · right; omega)
      have R1 : Rdy L N s1 := ⟨ok1, fun j => by rw [ld1]; split <;> rfl⟩
      obtain ⟨s2, run2, R2, sp2, sv2, se2, se3, hl2, hc2⟩ := bring_ok wf k1 k2 h2 nd hm hN r (rest - u) s1 R1 (fun i hi2 => by
          rw [sp1]
          by_cases hci : carts.getD i 0 = c
          · have : i = i0 := getD_inj nd hi2 hi (hci.trans hc.symm)
            rw [if_pos hci, if_pos (by omega)]
          · have hne : i ≠ i0 := fun z => hci (by rw [z]; exact hc)
            rw [if_neg hci, hs i hi2]
            by_cases hlt : i + (r + 1) < carts.length
            · rw [if_pos hlt, if_pos (by omega)]
            · rw [if_neg hlt, if_neg (by omega)]) (by omega) (by omega) (fun z => by omega) (by
          rcases hv with z | z
          · exact .inl z
          · right
            rw [sv1 _ (by have := wf (k - 1) (by omega); omega), if_pos rfl, if_neg (fun z => hpk z.symm)]
            omega)
      refine ⟨s2, ?_, R2, fun j => ?_, fun p hp => ?_, fun q hq => se2 q (by rw [se1]; exact List.mem_append_left _ hq), fun _ => se2 k (by rw [se1]; simp), ?_, ?_⟩
      · have := Run.app run1 run2
        rw [List.append_assoc, List.cons_append] at this
        exact this
      · rw [sp2, sp1]
        by_cases hj : j ∈ carts
        · rw [if_pos hj, if_pos hj]
        · rw [if_neg hj, if_neg hj, if_neg (fun z => hj (by rw [z]; exact hcm))]
      · rw [sv2 p hp, sv1 p hp]
        by_cases g1 : L.getD (k - 1) 0 = p
        · rw [if_pos g1, if_pos g1, if_pos g1, if_neg (fun z => hpk (g1.trans z.symm)), if_neg (fun z => hpk (g1.trans z.symm)), if_neg (fun z => hpk (g1.trans z.symm))]
          omega
        · rw [if_neg g1, if_neg g1, if_neg g1]
          by_cases g2 : k = p
          · rw [if_pos g2, if_pos g2, if_pos g2]; omega
          · rw [if_neg g2, if_neg g2, if_neg g2]; omega
      · rw [List.length_append, List.length_cons, List.length_append]
        have a1 : (addD .take c u).length ≤ 1 := by unfold addD; split <;> simp
        have a2 : (addD .lay c (u - 1)).length ≤ 1 := by unfold addD; split <;> simp
        omega
      · intro d hd
        have ad : ∀ w x, d ∈ addD w c x → d.c < N := fun w x h => by
          unfold addD at h
          split at h
          · cases h
          · have : d = ⟨w, c, x⟩ := by simpa using h
            rw [this]; exact hcN
        rcases List.mem_append.mp hd with z | z
        · exact ad _ _ z
        · rcases List.mem_cons.mp z with z | z
          · rw [z]; exact hcN
          · rcases List.mem_append.mp z with z | z
            · exact ad _ _ z
            · exact hc2 d z
    · obtain ⟨hb1, hb2⟩ := hbig (by omega)
      rw [Nat.add_sub_cancel] at hb1
      have hcm := getD_mem (l := carts) (i := 0) (by omega)
      have hcN := hN _ hcm
      have hsc := hs 0 (by omega)
      rw [if_neg (by omega)] at hsc
      have hr1 : 1 ≤ r := by omega
      have hmul : room ≤ r * room := Nat.le_mul_of_pos_left room (by omega)
      have hmin : min room (rest - r) = room := by
        have : r - 1 + 1 = r := by omega
        have h5 : r * room = (r - 1) * room + room := by rw [← this, Nat.succ_mul, this]
        have h6 : r - 1 ≤ (r - 1) * room := Nat.le_mul_of_pos_right _ (by omega)
        omega
      unfold bringF
      rw [if_neg hst, hmin]
      generalize hc : carts.getD 0 0 = c at hcm hcN hsc
      obtain ⟨s1, run1, ok1, sp1, ld1, sv1, se1⟩ := trip (room := room) (k := k) (c := c) (u := room) (b := 1) wf k1 k2 R hcN hsc (by omega) (by omega) (by omega) (by
        rcases hv with z | z
        · exact .inl z
        · right; omega)
      obtain ⟨s3, run3, R3, sp3, sv3, se3⟩ := trip_back (room := room) (k := k) (c := c) wf k1 ok1 ld1 hcN (by rw [sp1, if_pos rfl])
      have sp13 : ∀ j, s3.spots.getD j 0 = s.spots.getD j 0 := fun j => by
        rw [sp3, sp1]
        by_cases hj : j = c
        · rw [if_pos hj, hj, hsc]
        · rw [if_neg hj, if_neg hj]
      obtain ⟨s2, run2, R2, sp2, sv2, se2, se4, hl2, hc2⟩ := bring_ok wf k1 k2 h2 nd hm hN r (rest - room) s3 R3 (fun i hi2 => by
          rw [sp13, hs i hi2, if_neg (by omega), if_neg (by omega)]) (by omega) (by omega) (fun z => by
            have : r - 1 + 1 = r := by omega
            have h5 : r * room = (r - 1) * room + room := by rw [← this, Nat.succ_mul, this]
            omega) (by
          rcases hv with z | z
          · exact .inl z
          · right
            rw [sv3, sv1 _ (by have := wf (k - 1) (by omega); omega), if_pos rfl, if_neg (fun z => hpk z.symm)]
            omega)
      refine ⟨s2, ?_, R2, fun j => ?_, fun p hp => ?_, fun q hq => se2 q (by rw [se3, se1]; exact List.mem_append_left _ (List.mem_append_left _ hq)), fun _ => se2 k (by rw [se3, se1]; simp), ?_, ?_⟩
      · have := Run.app run1 (Run.app run3 run2)
        rw [List.append_assoc, List.cons_append] at this
        exact this
      · rw [sp2, sp13]
      · rw [sv2 p hp, sv3, sv1 p hp]
        by_cases g1 : L.getD (k - 1) 0 = p
        · rw [if_pos g1, if_pos g1, if_pos g1, if_neg (fun z => hpk (g1.trans z.symm)), if_neg (fun z => hpk (g1.trans z.symm)), if_neg (fun z => hpk (g1.trans z.symm))]
          omega
        · rw [if_neg g1, if_neg g1, if_neg g1]
          by_cases g2 : k = p
          · rw [if_pos g2, if_pos g2, if_pos g2]; omega
          · rw [if_neg g2, if_neg g2, if_neg g2]; omega
      · rw [List.length_append, List.length_cons, List.length_append, List.length_cons]
        have a1 : (addD .take c room).length ≤ 1 := by unfold addD; split <;> simp
        have a2 : (addD .lay c (room - 2)).length ≤ 1 := by unfold addD; split <;> simp
        omega
      · intro d hd
        have ad : ∀ w x, d ∈ addD w c x → d.c < N := fun w x h => by
          unfold addD at h
          split at h
          · cases h
          · have : d = ⟨w, c, x⟩ := by simpa using h
            rw [this]; exact hcN
        rcases List.mem_append.mp hd with z | z
        · exact ad _ _ z
        · rcases List.mem_cons.mp z with z | z
          · rw [z]; exact hcN
          · rcases List.mem_append.mp z with z | z
            · exact ad _ _ z
            · rcases List.mem_cons.mp z with z | z
              · rw [z]; exact hcN
              · exact hc2 d z
end
end Oat
namespace Oat
/-! ### a plan that takes the least -/
inductive Und (L : List Nat) : Nat → Nat → Prop
  | refl (p : Nat) : Und L p p
  | step {p k q : Nat} : k ∈ kids L p → Und L k q → Und L p q
theorem Und.ge {L : List Nat} (wf : WfL L) {p q : Nat} (h : Und L p q) : p ≤ q := by
  induction h with
  | refl p => exact Nat.le_refl _
  | step hk _ ih => have := kids_gt wf hk; omega
theorem Und.le {L : List Nat} (wf : WfL L) {p q : Nat} (h : Und L p q) : p ≤ L.length → q ≤ L.length := by
  induction h with
  | refl p => exact id
  | step hk _ ih => intro _; have := kids_gt wf hk; exact ih (by omega)
theorem Und.snoc {L : List Nat} {a p k : Nat} (h : Und L a p) : k ∈ kids L p → Und L a k := by
  induction h with
  | refl p => intro hk; exact .step hk (.refl k)
  | step hj _ ih => intro hk; exact .step hj (ih hk)
theorem und_zero {L : List Nat} (wf : WfL L) : ∀ (m q : Nat), q ≤ m → q ≤ L.length → Und L 0 q
  | 0, q, h, _ => by
    have : q = 0 := by omega
    subst this
    exact .refl 0
  | m + 1, q, h, hq => by
    by_cases h0 : q = 0
    · subst h0; exact .refl 0
    · have hk : q ∈ kids L (L.getD (q - 1) 0) := (kids_iff (by omega) hq).mpr rfl
      have := kids_gt wf hk
      exact (und_zero wf m _ (by omega) (by omega)).snoc hk
theorem und_unwanted {L : List Nat} {W : List (Option Nat)} (wf : WfL L) {j q : Nat} (h : Und L j q) : j ≤ L.length → wanted L W j = false → W.getD q none = none := by
  induction h with
  | refl p =>
    intro hp hw
    rw [wanted_eq wf hp, Bool.or_eq_false_iff] at hw
    cases e : W.getD p none with
    | none => rfl
    | some u => rw [e] at hw; cases hw.1
  | step hk _ ih =>
    intro hp hw
    rw [wanted_eq wf hp, Bool.or_eq_false_iff] at hw
    have hg := kids_gt wf hk
    refine ih (by omega) ?_
    cases e : wanted L W _ with
    | false => rfl
    | true =>
      have := List.any_eq_true.mpr ⟨_, hk, e⟩
      rw [hw.2] at this
      cases this
def outAt (c : Case) (cs : List Nat) (p : Nat) : Int := match dget (tab c p) (cs.getD p 0) with
  | some r => r.out
  | none => 0
def bringD (c : Case) (cs : List Nat) (k : Nat) (own : List Nat) : List Deed := bringF c.room k (c.L.getD (k - 1) 0) own (outAt c cs k).toNat (tkAt c cs k).toNat
def zeroF (c : Case) (cs : List Nat) (sf : Nat → List Nat → List Deed) (p : Nat) (carts : List Nat) : List Nat → List Deed
  | [] => []
  | k :: ks => (if 0 < outAt c cs k then bringD c cs k (carts.take 1) ++ (sf k (carts.take 1) ++ [⟨.take, carts.getD 0 0, 1⟩, goD (carts.getD 0 0) p]) else []) ++ zeroF c cs sf p carts ks
def posF (c : Case) (cs : List Nat) (sf : Nat → List Nat → List Deed) (carts : List Nat) : Nat → List Nat → List Deed
  | _, [] => []
  | i, k :: ks => (bringD c cs k ((carts.drop i).take (cs.getD k 0)) ++ sf k ((carts.drop i).take (cs.getD k 0))) ++ posF c cs sf carts (i + cs.getD k 0) ks
def serveF (c : Case) (cs : List Nat) : Nat → Nat → List Nat → List Deed
  | 0, _, _ => []
  | f + 1, p, carts => zeroF c cs (serveF c cs f) p carts ((kids c.L p).filter fun k => decide (cs.getD k 0 = 0)) ++ posF c cs (serveF c cs f) carts 0 ((kids c.L p).filter fun k => decide (0 < cs.getD k 0))
theorem kid_row {c : Case} {cs : List Nat} (wf : WfL c.L) (h2 : 2 ≤ c.room) (hS : ∀ p, p ≤ c.L.length → Set c cs p) {k : Nat} (k1 : 1 ≤ k) (k2 : k ≤ c.L.length) :
    ((kids c.L k).map fun q => cs.getD q 0).sum ≤ cs.getD k 0 ∧ ((cs.getD k 0 = 0 ∧ wanted c.L c.W k = false ∧ outAt c cs k = 0 ∧ tkAt c cs k = 0) ∨
    ∃ O T : Nat, outAt c cs k = O ∧ tkAt c cs k = T ∧ max (cs.getD k 0) 1 ≤ O ∧ O ≤ T ∧ T ≤ O * c.room ∧ (max (cs.getD k 0) 1 < O → (O - 1) * c.room + 3 ≤ T ∧ 3 ≤ c.room) ∧ (T : Int) = ((kids c.L k).map (tkAt c cs)).sum + wantN c.W k + 2 * (O : Int) - ((cs.getD k 0 : Nat) : Int) ∧ 0 ≤ ((kids c.L k).map (tkAt c cs)).sum) := by
  obtain ⟨r, b, n, hr, hb, ht, e1, e2, e3⟩ := set_sums wf hS k2
  refine ⟨by omega, ?_⟩
  have ho : outAt c cs k = r.out := by unfold outAt; rw [hr]
  have htk : tkAt c cs k = r.tk := by unfold tkAt; rw [hr]
  have hnn : 0 ≤ ((kids c.L k).map (tkAt c cs)).sum := sum_nn fun j hj => by
    have hg := kids_gt wf hj
    obtain ⟨rj, hrj, _⟩ := hS j hg.2
    have := tab_nn wf h2 (c.L.length + 1) j (by omega) hg.2 _ _ (mem_takes.mpr ⟨rj, mem_dget hrj, rfl⟩)
    unfold tkAt
    rw [hrj]
    exact this
  have hw := wantN_nn c.W k
  unfold takenOf at ht
  rw [if_neg (show ¬ k = 0 by omega)] at ht
  split at ht
  · rename_i z
    left
    rw [ho, htk, ← Option.some.inj ht]
    exact ⟨z.1, z.2, rfl, rfl⟩
  · right
    obtain ⟨o, hoo, hrr⟩ := Option.map_eq_some_iff.mp ht
    obtain ⟨g1, g2, g3⟩ := outF_spec h2 hoo
    dsimp only at g2 g3
    have er : r.out = o := by rw [← hrr]
    have et : r.tk = b.1 + wantN c.W k + 2 * o - ((cs.getD k 0 : Nat) : Int) := by rw [← hrr]
    generalize hE : cs.getD k 0 = e at *
    rw [e1] at g2 g3 et
    generalize hQ : ((kids c.L k).map (tkAt c cs)).sum + wantN c.W k = Q at *
    have hQ0 : 0 ≤ Q := by omega
    obtain ⟨O, rfl⟩ := Int.eq_ofNat_of_zero_le (show 0 ≤ o by omega)
    have hT0 : 0 ≤ Q + 2 * (O : Int) - (e : Int) := by omega
    obtain ⟨T, hT⟩ := Int.eq_ofNat_of_zero_le hT0
    have p1 : (O : Int) * ((c.room : Int) - 2) = ((O * c.room : Nat) : Int) - 2 * (O : Int) := by rw [Int.mul_sub, Int.natCast_mul]; omega
    rw [p1] at g2
    refine ⟨O, T, by rw [ho, er], by rw [htk, et, hT], by omega, by omega, by omega, fun hlt => ?_, by omega, hnn⟩
    have p2 : ((O : Int) - 1) * ((c.room : Int) - 2) = ((O * c.room : Nat) : Int) - 2 * (O : Int) - (c.room : Int) + 2 := by
      rw [Int.sub_mul, Int.one_mul, p1]; omega
    have p3 : ((((O - 1) * c.room : Nat)) : Int) = ((O * c.room : Nat) : Int) - (c.room : Int) := by
      have : O * c.room = (O - 1) * c.room + c.room := by
        have h5 : O = (O - 1) + 1 := by omega
        have h6 : ((O - 1) + 1) * c.room = (O - 1) * c.room + c.room := Nat.succ_mul _ _
        rw [← h5] at h6
        exact h6
      omega
    have hno : ¬ Q ≤ ((O : Int) - 1) * ((c.room : Int) - 2) + (e : Int) := fun z => by
      have := g3 ((O : Int) - 1) (by omega) z
      omega
    rw [p2] at hno
    refine ⟨by omega, ?_⟩
    by_cases h3 : c.room = 2
    · exfalso
      rw [h3] at hno g2
      omega
    · omega
/-- what deeds do at a place p for places js behind it -/
structure Post (c : Case) (N : Nat) (s s' : Stand) (ds : List Deed) (p : Nat) (t : Int) (js : List Nat) : Prop where
  run : Run c.L c.room s ds s'
  rdy : Rdy c.L N s'
  sv : ∀ q, q ≤ c.L.length → sv s q - (if q = p then t else 0) ≤ sv s' q
  want : ∀ j ∈ js, ∀ q, Und c.L j q → wantN c.W q ≤ Oat.sv s' q ∧ ((c.W.getD q none).isSome = true → q ∈ s'.seen)
  seen : ∀ q ∈ s.seen, q ∈ s'.seen
  len : (ds.length : Int) ≤ 3 * t
  cart : ∀ d ∈ ds, d.c < N
theorem Post.app {c : Case} {N : Nat} {s s1 s2 : Stand} {ds es : List Deed} {p : Nat} {t u : Int} {js ks : List Nat} (wf : WfL c.L) (hj : ∀ j ∈ js, p < j ∧ j ≤ c.L.length) (h1 : Post c N s s1 ds p t js) (h2 : Post c N s1 s2 es p u ks) : Post c N s s2 (ds ++ es) p (t + u) (js ++ ks) := by
  refine ⟨h1.run.app h2.run, h2.rdy, fun q hq => ?_, fun j hjm q hU => ?_, fun q hq => h2.seen q (h1.seen q hq), ?_, fun d hd => ?_⟩
  · have a1 := h1.sv q hq
    have a2 := h2.sv q hq
    split at a1 <;> split at a2 <;> split <;> omega
  · rcases List.mem_append.mp hjm with z | z
    · obtain ⟨w1, w2⟩ := h1.want j z q hU
      obtain ⟨j1, j2⟩ := hj j z
      have := hU.ge wf
      have a2 := h2.sv q (hU.le wf j2)
      rw [if_neg (by omega)] at a2
      exact ⟨by omega, fun y => h2.seen q (w2 y)⟩
    · exact h2.want j z q hU
  · rw [List.length_append]
    have a1 := h1.len
    have a2 := h2.len
    omega
  · rcases List.mem_append.mp hd with z | z
    · exact h1.cart d z
    · exact h2.cart d z
theorem Post.none {c : Case} {N : Nat} {s : Stand} {p : Nat} (R : Rdy c.L N s) : Post c N s s [] p 0 [] :=
  ⟨Run.nil, R, fun q _ => by split <;> omega, fun j h => (nomatch h), fun q h => h, by simp, fun d h => (nomatch h)⟩
def ServeOk (c : Case) (cs : List Nat) (N : Nat) (sf : Nat → List Nat → List Deed) (p : Nat) : Prop := ∀ (s : Stand) (carts : List Nat), Rdy c.L N s → carts.Nodup → (∀ x ∈ carts, x < N ∧ s.spots.getD x 0 = p) → max 1 (cs.getD p 0) ≤ carts.length → (p = 0 ∨ ((kids c.L p).map (tkAt c cs)).sum ≤ sv s p) →
  ∃ s', Post c N s s' (sf p carts) p ((kids c.L p).map (tkAt c cs)).sum (kids c.L p) ∧ (∀ x, x ∉ carts → s'.spots.getD x 0 = s.spots.getD x 0) ∧ ∀ (i x : Nat), ((kids c.L p).map fun q => cs.getD q 0).sum ≤ i → carts[i]? = some x → s'.spots.getD x 0 = p
section
variable {c : Case} {cs : List Nat} {N : Nat} {sf : Nat → List Nat → List Deed}
/-- a place behind: brought to, and served -/
theorem kid_ok (wf : WfL c.L) (h2 : 2 ≤ c.room) (hS : ∀ p, p ≤ c.L.length → Set c cs p) {p k : Nat} (hk : k ∈ kids c.L p) (ih : ServeOk c cs N sf k) {s : Stand} {own : List Nat} (R : Rdy c.L N s) (nd : own.Nodup) (hx : ∀ x ∈ own, x < N ∧ s.spots.getD x 0 = p) (hl : own.length = max (cs.getD k 0) 1)
    (hv : p = 0 ∨ tkAt c cs k ≤ sv s p) (ho : outAt c cs k ≠ 0) :
    ∃ s', Run c.L c.room s (bringD c cs k own ++ sf k own) s' ∧ Rdy c.L N s' ∧ (∀ q, q ≤ c.L.length → sv s q - (if q = p then tkAt c cs k else 0) + (if q = k then wantN c.W k + (if cs.getD k 0 = 0 then 1 else 0) else 0) ≤ sv s' q) ∧
      (∀ q, Und c.L k q → q ≠ k → wantN c.W q ≤ sv s' q ∧ ((c.W.getD q none).isSome = true → q ∈ s'.seen)) ∧ k ∈ s'.seen ∧ (∀ q ∈ s.seen, q ∈ s'.seen) ∧ (((bringD c cs k own ++ sf k own).length : Nat) : Int) + (if cs.getD k 0 = 0 then 2 else 0) ≤ 3 * tkAt c cs k ∧ (∀ d ∈ bringD c cs k own ++ sf k own, d.c < N) ∧
      (∀ x, x ∉ own → s'.spots.getD x 0 = s.spots.getD x 0) ∧ ∀ (i x : Nat), ((kids c.L k).map fun q => cs.getD q 0).sum ≤ i → own[i]? = some x → s'.spots.getD x 0 = k := by
  have hg := kids_gt wf hk
  have hp : c.L.getD (k - 1) 0 = p := (kids_iff (by omega) hg.2).mp hk
  obtain ⟨hcs, hrow⟩ := kid_row wf h2 hS (k := k) (by omega) hg.2
  rcases hrow with ⟨_, _, z, _⟩ | ⟨O, T, eO, eT, r1, r2, r3, r4, r5, r6⟩
  · exact absurd z ho
  · have hb := bring_ok (room := c.room) (L := c.L) (N := N) (k := k) (carts := own) wf (by omega) hg.2 h2 nd (by omega) (fun x h => (hx x h).1) O T s R (fun i hi => by
        rw [hp, (hx _ (getD_mem hi)).2, if_neg (by omega)]) r2 r3 (fun z => r4 (by omega)) (by
        rw [hp]
        rcases hv with z | z
        · exact .inl z
        · right; omega)
    rw [hp] at hb
    have eb : bringD c cs k own = bringF c.room k p own O T := by unfold bringD; rw [hp, eO, eT]; rfl
    rw [eb]
    obtain ⟨s1, run1, R1, sp1, sv1, se1, se2, len1, ct1⟩ := hb
    have hw := wantN_nn c.W k
    have hsk : sv s1 k = sv s k + (((kids c.L k).map (tkAt c cs)).sum + wantN c.W k + (if cs.getD k 0 = 0 then 1 else 0)) := by
      rw [sv1 k hg.2, if_neg (by omega), if_pos rfl]
      split <;> omega
    have hk0 : 0 ≤ sv s k := by unfold sv; rw [if_neg (by omega)]; omega
    obtain ⟨s2, P, out2, in2⟩ := ih s1 own R1 nd (fun x h => ⟨(hx x h).1, by rw [sp1, if_pos h]⟩) (by omega) (.inr (by rw [hsk]; split <;> omega))
    refine ⟨s2, run1.app P.run, P.rdy, fun q hq => ?_, fun q hU hne => ?_, P.seen k (se2 (by omega)), fun q hq => P.seen q (se1 q hq), ?_, fun d hd => ?_, fun x hxn => ?_, in2⟩
    · have a2 := P.sv q hq
      by_cases g1 : q = k
      · subst g1
        rw [if_pos rfl] at a2 ⊢
        rw [if_neg (by omega)]
        omega
      · rw [if_neg g1] at a2 ⊢
        rw [sv1 q hq, if_neg (show ¬ k = q from fun z => g1 z.symm)] at a2
        by_cases g2 : q = p
        · rw [if_pos g2, eT]
          rw [if_pos g2.symm] at a2
          omega
        · rw [if_neg g2]
          rw [if_neg (show ¬ p = q from fun z => g2 z.symm)] at a2
          omega
    · cases hU with
      | refl => exact absurd rfl hne
      | step hj hU' => exact P.want _ hj q hU'
    · have a1 := P.len
      rw [List.length_append]
      split <;> omega
    · rcases List.mem_append.mp hd with z | z
      · exact ct1 d z
      · exact P.cart d z
    · rw [out2 x hxn, sp1, if_neg hxn]
theorem zero_ok (wf : WfL c.L) (h2 : 2 ≤ c.room) (hS : ∀ p, p ≤ c.L.length → Set c cs p) {p : Nat} (hp : p ≤ c.L.length) {carts : List Nat} (hl : 1 ≤ carts.length) (hN : ∀ x ∈ carts, x < N) :
    ∀ (ks : List Nat), (∀ k ∈ ks, k ∈ kids c.L p ∧ cs.getD k 0 = 0 ∧ ServeOk c cs N sf k) → ∀ s, Rdy c.L N s → s.spots.getD (carts.getD 0 0) 0 = p → (p = 0 ∨ (ks.map (tkAt c cs)).sum ≤ sv s p) →
    ∃ s', Post c N s s' (zeroF c cs sf p carts ks) p (ks.map (tkAt c cs)).sum ks ∧ ∀ x, s'.spots.getD x 0 = s.spots.getD x 0
  | [], _, s, R, _, _ => ⟨s, Post.none R, fun _ => rfl⟩
  | k :: ks, hks, s, R, hs, hv => by
    obtain ⟨hk, h0, ih⟩ := hks k List.mem_cons_self
    have hg := kids_gt wf hk
    have hpk : c.L.getD (k - 1) 0 = p := (kids_iff (by omega) hg.2).mp hk
    obtain ⟨hcs, hrow⟩ := kid_row wf h2 hS (k := k) (by omega) hg.2
    have hnn : 0 ≤ (ks.map (tkAt c cs)).sum := sum_nn fun j hj => by
      have hg := kids_gt wf (hks j (List.mem_cons_of_mem _ hj)).1
      obtain ⟨_, z⟩ := kid_row wf h2 hS (k := j) (by omega) hg.2
      rcases z with ⟨_, _, _, z⟩ | ⟨_, _, _, z, _⟩ <;> omega
    rw [List.map_cons, List.sum_cons] at hv ⊢
    have hone : ∃ s1, Post c N s s1 (if 0 < outAt c cs k then bringD c cs k (carts.take 1) ++ (sf k (carts.take 1) ++ [⟨.take, carts.getD 0 0, 1⟩, goD (carts.getD 0 0) p]) else []) p (tkAt c cs k) [k] ∧ ∀ x, s1.spots.getD x 0 = s.spots.getD x 0 := by
      rcases hrow with ⟨_, hw, z1, z2⟩ | ⟨O, T, eO, eT, r1, r2, r3, r4, r5, r6⟩
      · rw [if_neg (by omega), z2]
        refine ⟨s, ⟨Run.nil, R, fun q _ => by split <;> omega, fun j hj q hU => ?_, fun q h => h, by simp, fun d h => (nomatch h)⟩, fun _ => rfl⟩
        have : j = k := by simpa using hj
        subst this
        have hn := und_unwanted wf hU hg.2 hw
        have hq := hU.ge wf
        refine ⟨?_, fun y => by rw [hn] at y; cases y⟩
        unfold wantN sv
        rw [hn, if_neg (by omega)]
        show (0 : Int) ≤ _
        omega
      · rw [if_pos (by omega)]
        have h0c : carts.getD 0 0 ∈ carts := getD_mem (by omega)
        have e1 : carts.take 1 = [carts.getD 0 0] := by
          cases carts with
          | nil => simp at hl
          | cons x xs => rfl
        rw [e1]
        generalize carts.getD 0 0 = c0 at h0c hs ⊢
        have hcN := hN c0 h0c
        obtain ⟨s1, run1, R1, sv1, w1, k1, se1, len1, ct1, out1, in1⟩ := kid_ok wf h2 hS hk ih (own := [c0]) R (by simp) (fun x hx => by
          have : x = c0 := by simpa using hx
          subst this
          exact ⟨hcN, hs⟩) (by rw [h0]; rfl) (by rcases hv with z | z
                                                 · exact .inl z
                                                 · right; omega) (by omega)
        have hs1 : s1.spots.getD c0 0 = k := in1 0 c0 (by omega) rfl
        have svk := sv1 k hg.2
        rw [if_neg (by omega), if_pos rfl, if_pos h0] at svk
        have hk0 : 0 ≤ sv s k := by unfold sv; rw [if_neg (by omega)]; omega
        have hw0 := wantN_nn c.W k
        obtain ⟨s2, e2, ok2, sp2, ld2, sv2, se2⟩ := do_take (L := c.L) (room := c.room) (N := N) (s := s1) (c := c0) (x := 1) wf R1.ok hcN (by omega) (by rw [R1.ld]; omega) (by rw [hs1]; right; omega)
        rw [R1.ld] at ld2
        obtain ⟨s3, run3, R3, sp3, sv3, se3⟩ := trip_back (room := c.room) (k := k) (c := c0) wf (by omega) ok2 (fun j => by rw [ld2, R1.ld]) hcN (by rw [sp2, hs1])
        rw [hpk] at run3 sp3 se3
        have hrun := run1.app (Run.cons e2 run3)
        rw [List.append_assoc] at hrun
        refine ⟨s3, ⟨hrun, R3, fun q hq => ?_, fun j hj q hU => ?_, fun q hq => ?_, ?_, fun d hd => ?_⟩, fun x => ?_⟩
        · rw [sv3, sv2 q hq, hs1]
          have a1 := sv1 q hq
          by_cases g1 : q = k
          · subst g1
            rw [if_pos rfl, if_pos h0] at a1
            rw [if_pos rfl]
            omega
          · rw [if_neg g1] at a1
            rw [if_neg (show ¬ k = q from fun z => g1 z.symm)]
            omega
        · have : j = k := by simpa using hj
          subst this
          have hq := hU.le wf hg.2
          by_cases g1 : q = j
          · subst g1
            rw [sv3, sv2 q hq, hs1, if_pos rfl]
            exact ⟨by omega, fun _ => by rw [se3, se2]; exact List.mem_append_left _ k1⟩
          · obtain ⟨a1, a2⟩ := w1 q hU g1
            rw [sv3, sv2 q hq, hs1, if_neg (fun z => g1 z.symm)]
            exact ⟨by omega, fun y => by rw [se3, se2]; exact List.mem_append_left _ (a2 y)⟩
        · rw [se3, se2]; exact List.mem_append_left _ (se1 q hq)
        · rw [if_pos h0] at len1
          rw [List.length_append] at len1
          rw [List.length_append, List.length_append, List.length_cons, List.length_cons, List.length_nil]
          omega
        · rw [← List.append_assoc] at hd
          rcases List.mem_append.mp hd with z | z
          · exact ct1 d z
          · rcases List.mem_cons.mp z with z | z
            · rw [z]; exact hcN
            · have : d = goD c0 p := by simpa using z
              rw [this]; exact hcN
        · rw [sp3, sp2]
          by_cases hxc : x = c0
          · rw [if_pos hxc, hxc, hs]
          · rw [if_neg hxc, out1 x (by simpa using hxc)]
    obtain ⟨s1, P1, sp1⟩ := hone
    obtain ⟨s2, P2, sp2⟩ := zero_ok wf h2 hS hp hl hN ks (fun j hj => hks j (List.mem_cons_of_mem _ hj)) s1 P1.rdy (by rw [sp1]; exact hs) (by
      rcases hv with z | z
      · exact .inl z
      · right
        have := P1.sv p hp
        rw [if_pos rfl] at this
        omega)
    refine ⟨s2, ?_, fun x => by rw [sp2, sp1]⟩
    have := P1.app wf (fun j hj => by
      have : j = k := by simpa using hj
      subst this
      exact hg) P2
    exact this
theorem pos_ok (wf : WfL c.L) (h2 : 2 ≤ c.room) (hS : ∀ p, p ≤ c.L.length → Set c cs p) {p : Nat} (hp : p ≤ c.L.length) {carts : List Nat} (nd : carts.Nodup) (hN : ∀ x ∈ carts, x < N) :
    ∀ (ks : List Nat) (i : Nat), (∀ k ∈ ks, k ∈ kids c.L p ∧ 0 < cs.getD k 0 ∧ ServeOk c cs N sf k) → i + (ks.map fun q => cs.getD q 0).sum ≤ carts.length → ∀ s, Rdy c.L N s → (∀ (j x : Nat), i ≤ j → carts[j]? = some x → s.spots.getD x 0 = p) → (p = 0 ∨ (ks.map (tkAt c cs)).sum ≤ sv s p) →
    ∃ s', Post c N s s' (posF c cs sf carts i ks) p (ks.map (tkAt c cs)).sum ks ∧ (∀ x, x ∉ carts → s'.spots.getD x 0 = s.spots.getD x 0) ∧ ∀ (j x : Nat), i + (ks.map fun q => cs.getD q 0).sum ≤ j → carts[j]? = some x → s'.spots.getD x 0 = p
  | [], i, _, _, s, R, hs, _ => ⟨s, Post.none R, fun _ _ => rfl, fun j x hj he => hs j x hj he⟩
  | k :: ks, i, hks, hlen, s, R, hs, hv => by
    obtain ⟨hk, h0, ih⟩ := hks k List.mem_cons_self
    have hg := kids_gt wf hk
    obtain ⟨hcs, hrow⟩ := kid_row wf h2 hS (k := k) (by omega) hg.2
    have hnn : 0 ≤ (ks.map (tkAt c cs)).sum := sum_nn fun j hj => by
      have hg := kids_gt wf (hks j (List.mem_cons_of_mem _ hj)).1
      obtain ⟨_, z⟩ := kid_row wf h2 hS (k := j) (by omega) hg.2
      rcases z with ⟨_, _, _, z⟩ | ⟨_, _, _, z, _⟩ <;> omega
    rw [List.map_cons, List.sum_cons] at hv hlen ⊢
    rw [List.map_cons, List.sum_cons]
    have ho : outAt c cs k ≠ 0 := by
      rcases hrow with ⟨z, _⟩ | ⟨O, T, eO, _, r1, _⟩ <;> omega
    have hown : ∀ (m x : Nat), ((carts.drop i).take (cs.getD k 0))[m]? = some x → m < cs.getD k 0 ∧ carts[i + m]? = some x := fun m x h => by
      rw [List.getElem?_take] at h
      split at h
      · rename_i hm
        rw [List.getElem?_drop] at h
        exact ⟨hm, h⟩
      · cases h
    have hmem : ∀ x ∈ (carts.drop i).take (cs.getD k 0), x ∈ carts ∧ s.spots.getD x 0 = p := fun x hx => by
      obtain ⟨m, hm⟩ := List.getElem?_of_mem hx
      obtain ⟨_, h⟩ := hown m x hm
      exact ⟨List.mem_of_getElem? h, hs (i + m) x (by omega) h⟩
    obtain ⟨s1, run1, R1, sv1, w1, k1, se1, len1, ct1, out1, in1⟩ := kid_ok wf h2 hS hk ih (own := (carts.drop i).take (cs.getD k 0)) R ((nd.sublist (List.drop_sublist _ _)).sublist (List.take_sublist _ _)) (fun x hx => ⟨hN x (hmem x hx).1, (hmem x hx).2⟩) (by
        rw [List.length_take, List.length_drop]; omega) (by rcases hv with z | z
                                                            · exact .inl z
                                                            · right; omega) ho
    have P1 : Post c N s s1 (bringD c cs k ((carts.drop i).take (cs.getD k 0)) ++ sf k ((carts.drop i).take (cs.getD k 0))) p (tkAt c cs k) [k] := by
      refine ⟨run1, R1, fun q hq => ?_, fun j hj q hU => ?_, se1, ?_, ct1⟩
      · have a1 := sv1 q hq
        have hw0 := wantN_nn c.W k
        have : 0 ≤ (if q = k then wantN c.W k + (if cs.getD k 0 = 0 then 1 else 0) else 0) := by split <;> (try split) <;> omega
        omega
      · have : j = k := by simpa using hj
        subst this
        by_cases g1 : q = j
        · subst g1
          have a1 := sv1 q hg.2
          rw [if_neg (by omega), if_pos rfl, if_neg (by omega)] at a1
          have hk0 : 0 ≤ sv s q := by unfold sv; rw [if_neg (by omega)]; omega
          exact ⟨by omega, fun _ => k1⟩
        · exact w1 q hU g1
      · rw [if_neg (by omega)] at len1
        omega
    obtain ⟨s2, P2, out2, in2⟩ := pos_ok wf h2 hS hp nd hN ks (i + cs.getD k 0) (fun j hj => hks j (List.mem_cons_of_mem _ hj)) (by omega) s1 R1 (fun j x hj he => by
        rw [out1 x (fun hx => by
          obtain ⟨m, hm⟩ := List.getElem?_of_mem hx
          obtain ⟨g1, g2⟩ := hown m x hm
          have hjl := (List.getElem?_eq_some_iff.mp he).1
          have := (List.getElem?_inj hjl nd).mp (he.trans g2.symm)
          omega)]
        exact hs j x (by omega) he) (by
      rcases hv with z | z
      · exact .inl z
      · right
        have := P1.sv p hp
        rw [if_pos rfl] at this
        omega)
    refine ⟨s2, ?_, fun x hx => ?_, fun j x hj he => in2 j x (by omega) he⟩
    · have := P1.app wf (fun j hj => by
        have : j = k := by simpa using hj
        subst this
        exact hg) P2
      exact this
    · rw [out2 x hx, out1 x (fun hx2 => hx (hmem x hx2).1)]
end
theorem sum_split {a : Nat → Bool} {b : Nat → Bool} (h : ∀ x, b x = !a x) (f : Nat → Int) : ∀ l : List Nat, (l.map f).sum = ((l.filter a).map f).sum + ((l.filter b).map f).sum
  | [] => rfl
  | x :: l => by
    have ih := sum_split h f l
    rw [List.map_cons, List.sum_cons, List.filter_cons, List.filter_cons, h x]
    cases a x with
    | true =>
      simp only [if_true, Bool.not_true, Bool.false_eq_true, if_false, List.map_cons, List.sum_cons]
      omega
    | false =>
      simp only [if_true, Bool.not_false, Bool.false_eq_true, if_false, List.map_cons, List.sum_cons]
      omega
theorem sum_pos (f : Nat → Nat) : ∀ l : List Nat, ((l.filter fun k => decide (0 < f k)).map f).sum = (l.map f).sum
  | [] => rfl
  | x :: l => by
    have ih := sum_pos f l
    rw [List.map_cons, List.sum_cons, List.filter_cons]
    split
    · rw [List.map_cons, List.sum_cons, ih]
    · rename_i z
      have : f x = 0 := by simpa using z
      rw [ih, this, Nat.zero_add]
theorem serve_ok {c : Case} {cs : List Nat} {N : Nat} (wf : WfL c.L) (h2 : 2 ≤ c.room) (hS : ∀ p, p ≤ c.L.length → Set c cs p) : ∀ (f p : Nat), c.L.length < f + p → p ≤ c.L.length → ServeOk c cs N (serveF c cs f) p
  | 0, p, h, hp => by omega
  | f + 1, p, h, hp => by
    intro s carts R nd hx hl hv
    have ih : ∀ k ∈ kids c.L p, ServeOk c cs N (serveF c cs f) k := fun k hk => by
      have := kids_gt wf hk
      exact serve_ok wf h2 hS f k (by omega) (by omega)
    have hsplit := sum_split (a := fun k => decide (cs.getD k 0 = 0)) (b := fun k => decide (0 < cs.getD k 0)) (fun x => by
      by_cases z : cs.getD x 0 = 0
      · rw [decide_eq_true z, decide_eq_false (by omega)]; rfl
      · rw [decide_eq_false z, decide_eq_true (by omega)]; rfl) (tkAt c cs) (kids c.L p)
    have hnn : 0 ≤ (((kids c.L p).filter fun k => decide (0 < cs.getD k 0)).map (tkAt c cs)).sum := sum_nn fun j hj => by
      have hg := kids_gt wf (List.mem_filter.mp hj).1
      obtain ⟨_, z⟩ := kid_row wf h2 hS (k := j) (by omega) hg.2
      rcases z with ⟨_, _, _, z⟩ | ⟨_, _, _, z, _⟩ <;> omega
    have hsp := sum_pos (fun q => cs.getD q 0) (kids c.L p)
    obtain ⟨s1, P1, sp1⟩ := zero_ok (cs := cs) (sf := serveF c cs f) wf h2 hS hp (carts := carts) (by omega) (fun x h => (hx x h).1) ((kids c.L p).filter fun k => decide (cs.getD k 0 = 0)) (fun k hk => by
      obtain ⟨a, b⟩ := List.mem_filter.mp hk
      exact ⟨a, of_decide_eq_true b, ih k a⟩) s R (hx _ (getD_mem (by omega))).2 (by
      rcases hv with z | z
      · exact .inl z
      · right; omega)
    have hcnt : ((kids c.L p).map fun q => cs.getD q 0).sum ≤ cs.getD p 0 := by
      obtain ⟨r, b, n, _, _, _, _, e2, e3⟩ := set_sums wf hS hp
      omega
    obtain ⟨s2, P2, out2, in2⟩ := pos_ok (cs := cs) (sf := serveF c cs f) wf h2 hS hp nd (fun x h => (hx x h).1) ((kids c.L p).filter fun k => decide (0 < cs.getD k 0)) 0 (fun k hk => by
      obtain ⟨a, b⟩ := List.mem_filter.mp hk
      exact ⟨a, of_decide_eq_true b, ih k a⟩) (by rw [hsp]; omega) s1 P1.rdy (fun j x _ he => by rw [sp1]; exact (hx x (List.mem_of_getElem? he)).2) (by
      rcases hv with z | z
      · exact .inl z
      · right
        have := P1.sv p hp
        rw [if_pos rfl] at this
        omega)
    have P := P1.app wf (fun j hj => kids_gt wf (List.mem_filter.mp hj).1) P2
    rw [← hsplit] at P
    refine ⟨s2, ⟨P.run, P.rdy, P.sv, fun j hj q hU => ?_, P.seen, P.len, P.cart⟩, fun x h => by rw [out2 x h, sp1], fun i x hi he => in2 i x (by rw [hsp]; omega) he⟩
    refine P.want j (List.mem_append.mpr ?_) q hU
    by_cases z : cs.getD j 0 = 0
    · exact .inl (List.mem_filter.mpr ⟨hj, decide_eq_true z⟩)
    · exact .inr (List.mem_filter.mpr ⟨hj, decide_eq_true (by omega)⟩)
def madeF (c : Case) (cs : List Nat) (N : Nat) : List Deed := serveF c cs 30 0 (List.range N)
theorem away_le : ∀ (l : List Nat) (S : Nat), (∀ i, S ≤ i → l.getD i 0 = 0) → (l.filter fun p => decide (p ≠ 0)).length ≤ S
  | [], S, _ => by simp
  | x :: l, 0, h => by
    have h0 : x = 0 := h 0 (Nat.le_refl _)
    have := away_le l 0 fun i _ => by have := h (i + 1) (by omega); rwa [List.getD_cons_succ] at this
    rw [List.filter_cons, h0]
    simpa using this
  | x :: l, S + 1, h => by
    have := away_le l S fun i hi => by have := h (i + 1) (by omega); rwa [List.getD_cons_succ] at this
    rw [List.filter_cons]
    split
    · rw [List.length_cons]; omega
    · omega
theorem told_least {c : Case} (wf : WfL c.L) {cs : List Nat} (h : told c = some cs) : least c = some (tkAt c cs 0) := by
  unfold told at h
  obtain ⟨m, hm, hcs⟩ := Option.map_eq_some_iff.mp h
  have hne : takes (tab c 0) ≠ [] := fun z => by rw [z] at hm; cases hm
  obtain ⟨n, e, g1, _⟩ := bestL_some hne
  rw [hm] at e
  have e := Option.some.inj e
  subst e
  have hlt : least c = some m.1 := by unfold least; rw [hm]; rfl
  rw [hlt]
  congr 1
  obtain ⟨r, hr, hv⟩ := mem_takes.mp g1
  have hd := dget_of_mem (tab_nd wf (Nat.zero_le _)) hr
  have hc0 : cs.getD 0 0 = m.2 := by
    have : ∀ i, i ≤ c.L.length + 1 → ((List.range i).foldl (cntStep c) ((List.replicate (c.L.length + 1) 0).set 0 m.2)).getD 0 0 = m.2 := by
      intro i
      induction i with
      | zero => intro _; simp
      | succ i ih =>
        intro hi
        have kn := known_upto wf hm i (by omega)
        obtain ⟨_, r, hr1, hr2⟩ := known_step wf (show i ≤ c.L.length by omega) kn
        rw [List.range_succ, List.foldl_append]
        show (cntStep c _ i).getD 0 0 = m.2
        rw [hr2, getD_q (setKids_out (fun z => by have := kids_gt wf z; omega))]
        exact ih (by omega)
    rw [← hcs]
    exact this (c.L.length + 1) (Nat.le_refl _)
  unfold tkAt
  rw [hc0, hd]
  exact hv.symm
/-- the made plan is right and takes the least -/
theorem made_right {c : Case} {cs : List Nat} {N : Nat} (wf : WfL c.L) (hn : c.L.length < 30) (h2 : 2 ≤ c.room) (hN : 1 ≤ N) (hl : c.left ≤ N) (hW : c.W.length = c.L.length + 1) (h : told c = some cs) :
    ∃ s v, least c = some v ∧ standF c.L c.room N (madeF c cs N) = .inr s ∧ meetsB c.W c.left s = true ∧ s.taken + wantN c.W 0 = v ∧ ((madeF c cs N).length : Int) ≤ 3 * v ∧ ∀ d ∈ madeF c cs N, d.c < N := by
  have hS := told_set wf h
  have hleast := told_least wf h
  have hc := told_counts wf h (p := 0) (Nat.zero_le _)
  have htl := told_left wf h
  have R0 : Rdy c.L N (stand0 (c.L.length + 1) N) := ⟨ok_stand0 (by omega), fun j => rep_getD N j⟩
  obtain ⟨s, P, _, hin⟩ := serve_ok (N := N) wf h2 hS 30 0 (by omega) (Nat.zero_le _) (stand0 (c.L.length + 1) N) (List.range N) R0 List.nodup_range (fun x hx => ⟨List.mem_range.mp hx, rep_getD N x⟩) (by rw [List.length_range]; omega) (.inl rfl)
  have htk : tkAt c cs 0 = ((kids c.L 0).map (tkAt c cs)).sum + wantN c.W 0 := by
    obtain ⟨r, b, n, hr, hb, ht, e1, _, _⟩ := set_sums wf hS (p := 0) (Nat.zero_le _)
    unfold takenOf at ht
    rw [if_pos rfl] at ht
    have : tkAt c cs 0 = r.tk := by unfold tkAt; rw [hr]
    rw [this, ← Option.some.inj ht, ← e1]
  have hrun : standF c.L c.room N (madeF c cs N) = .inr s := P.run 0
  have haw : awayN s ≤ c.left := by
    have := away_le s.spots ((kids c.L 0).map fun q => cs.getD q 0).sum (fun i hi => by
      by_cases hiN : i < N
      · exact hin i i hi (by rw [List.getElem?_range hiN])
      · rw [List.getD_eq_getElem?_getD, List.getElem?_eq_none (by rw [P.rdy.ok.l1]; omega)]; rfl)
    unfold awayN
    omega
  have hmeet : meetsB c.W c.left s = true := by
    unfold meetsB
    rw [Bool.and_eq_true, decide_eq_true_eq]
    refine ⟨haw, List.all_eq_true.mpr fun p hp => ?_⟩
    have hp := List.mem_range.mp hp
    have hU := und_zero wf p p (Nat.le_refl _) (by omega)
    unfold metAt
    rw [Bool.and_eq_true, Bool.or_eq_true, Bool.or_eq_true, decide_eq_true_eq, decide_eq_true_eq, decide_eq_true_eq]
    cases hU with
    | refl =>
      refine ⟨.inr (P.seen 0 ?_), .inl rfl⟩
      show 0 ∈ [0]
      simp
    | step hj hU' =>
      obtain ⟨w1, w2⟩ := P.want _ hj p hU'
      have h1 := hU'.ge wf
      have h3 := kids_gt wf hj
      refine ⟨?_, .inr ?_⟩
      · cases e : c.W.getD p none with
        | none => exact .inl rfl
        | some u => exact .inr (w2 (by rw [e]; rfl))
      · unfold sv at w1
        rw [if_neg (by omega)] at w1
        exact w1
  obtain ⟨v, hv, hle⟩ := right_least (c := c) (carts := N) wf h2 P.cart hrun hmeet hW
  rw [hleast] at hv
  have hv := Option.some.inj hv
  have hsv := P.sv 0 (Nat.zero_le _)
  rw [if_pos rfl] at hsv
  have e0 : sv (stand0 (c.L.length + 1) N) 0 = 0 := rfl
  have e1 : sv s 0 = -s.taken := by unfold sv; rw [if_pos rfl]
  have hlen := P.len
  have hw0 := wantN_nn c.W 0
  refine ⟨s, tkAt c cs 0, hleast, hrun, hmeet, by omega, ?_, P.cart⟩
  have : madeF c cs N = serveF c cs 30 0 (List.range N) := rfl
  rw [this]
  omega
end Oat
namespace Oa
open PySem PySem.Spec PyProof.Rows L2 Oat
/-! ### dicts whose keys are tuples of tuples of ints and bools -/
def fk : V → NestedKey
  | .int i => .num i
  | .bl b => .num (if b = true then 1 else 0)
  | _ => .none
def KeyV : V → Bool
  | .int _ => true
  | .bl _ => true
  | _ => false
theorem nested_flat {h : Heap} : ∀ {xs : List V} {its : List Value}, Vals xs its → xs.all KeyV = true → NestedAll h (xs.map fk) its
  | _, _, .nil, _ => .nil
  | x :: _, u :: _, .cons r t, hx => by
    rw [List.all_cons, Bool.and_eq_true] at hx
    refine .cons ?_ (nested_flat t hx.2)
    cases x with
    | int i =>
      obtain ⟨tk, rfl⟩ := r
      exact .int _ _
    | bl b =>
      obtain rfl : u = Value.bool b := r
      exact .bool rfl
    | _ => exact absurd hx.1 (by simp [KeyV])
theorem depth_flatK : ∀ xs : List V, NestedKey.depthAll (xs.map fk) = 0
  | [] => by simp [NestedKey.depthAll]
  | x :: xs => by
    have ih := depth_flatK xs
    cases x <;> simp [NestedKey.depthAll, NestedKey.depth, fk, ih]
def stK (xss : List (List V)) : NestedKey := .tup (xss.map fun xs => .tup (xs.map fk))
theorem depth_stKs : ∀ xss : List (List V), NestedKey.depthAll (xss.map fun xs => .tup (xs.map fk)) ≤ 1
  | [] => by simp [NestedKey.depthAll]
  | xs :: xss => by
    have ih := depth_stKs xss
    have := depth_flatK xs
    simp only [List.map_cons, NestedKey.depthAll, NestedKey.depth]
    omega
theorem depth_stK (xss : List (List V)) : (stK xss).depth ≤ 8 := by
  have := depth_stKs xss
  unfold stK
  simp only [NestedKey.depth]
  omega
/-- a tuple of tuples as it lies -/
def StV (K : PySem.W.Frag) (H : Hp) (p : Addr) (xss : List (List V)) : Prop := ∃ as : List Addr, SqT K H p (as.map V.ref) ∧ Paired (fun a xs => SqT K H a xs ∧ xs.all KeyV = true) as xss
theorem StV.tx {K : PySem.W.Frag} {H H' : Hp} {p : Addr} {xss : List (List V)} (h : StV K H p xss) (s : TExt H H') : StV K H' p xss := by
  obtain ⟨as, h1, h2⟩ := h
  exact ⟨as, s.t h1, paired_imp h2 fun _ _ z => ⟨s.t z.1, z.2⟩⟩
section
variable {X : Cx} {pins : List (Addr × Obj)} {σ : L2.St} {H : Hp} {s : Shared}
theorem nk_flat (I : Inv X pins σ H s) {a : Addr} {xs : List V} (h : SqT X.K H a xs) (hx : xs.all KeyV = true) : NestedIs s.heap (.tup (xs.map fk)) (.ref a) := by
  obtain ⟨its, r, ⟨o, e, c, n, d⟩, _⟩ := I.tuple h
  exact .tup e c d (by simpa using nested_flat (h := s.heap) r hx)
theorem nk_all (I : Inv X pins σ H s) : ∀ {as : List Addr} {xss : List (List V)} {its : List Value}, Paired (fun a xs => SqT X.K H a xs ∧ xs.all KeyV = true) as xss → Vals (as.map V.ref) its → NestedAll s.heap (xss.map fun xs => .tup (xs.map fk)) its
  | _, _, _, .nil, .nil => .nil
  | _ :: _, _ :: _, _, .cons h t, .cons r rt => by
    cases r
    exact .cons (nk_flat I h.1 h.2) (nk_all I t rt)
theorem nk_st (I : Inv X pins σ H s) {p : Addr} {xss : List (List V)} (h : StV X.K H p xss) : (nestedKind X.prog X.w).is s.heap (stK xss) p := by
  obtain ⟨as, h1, h2⟩ := h
  obtain ⟨its, r, ⟨o, e, c, n, d⟩, _⟩ := I.tuple h1
  exact ⟨.tup e c d (by simpa using nk_all I h2 r), depth_stK xss⟩
end
/-- the dict's own object -/
def SeenR (P : Program) (w : World) (d : Addr) (xs : List (NestedKey × Addr × Value)) (h : Heap) : Prop :=
  (d == sysModules) = false ∧ ∃ o es ep, h.get? d = some o ∧ o.ExactDict ∧ o.data = .dict es ep ∧ es.toList = xs.map (entryOfKey (nestedKind P w)) ∧ (xs.map (·.1)).Nodup
def SeenO (P : Program) (w : World) (d : Addr) (xs : List (NestedKey × Addr × Value)) : HO := .ext (SeenR P w d xs)
theorem seenO_ok {P : Program} {w : World} {H : Hp} {h : Heap} {d : Addr} {xs : List (NestedKey × Addr × Value)} (r : SeenR P w d xs h) : ObjOk P w H h d (SeenO P w d xs) := by
  refine ⟨r, ?_, fun h1 h2 z k => ?_⟩
  · obtain ⟨_, o, _, _, e, _⟩ := r
    exact ⟨o, e⟩
  · obtain ⟨z0, o, es, ep, e, q⟩ := z
    exact ⟨z0, o, es, ep, k o e, q⟩
/-- a dict of such keys, all True -/
def SeenAt (P : Program) (w : World) (K : PySem.W.Frag) (H : Hp) (d : Addr) (ks : List NestedKey) : Prop :=
  ∃ xs : List (NestedKey × Addr × Value), H d = some (SeenO P w d xs) ∧ xs.map (·.1) = ks ∧ ∀ x ∈ xs, ∃ xss, x.1 = stK xss ∧ StV K H x.2.1 xss
theorem SeenAt.keep {P : Program} {w : World} {K : PySem.W.Frag} {H H' : Hp} {d : Addr} {ks : List NestedKey} (h : SeenAt P w K H d ks) (e : H' d = H d) (x : TExt H H') : SeenAt P w K H' d ks := by
  obtain ⟨xs, h1, h2, h3⟩ := h
  exact ⟨xs, e.trans h1, h2, fun y hy => let ⟨xss, z1, z2⟩ := h3 y hy; ⟨xss, z1, z2.tx x⟩⟩
theorem SeenAt.same {P : Program} {w : World} {K : PySem.W.Frag} {H H' : Hp} {d : Addr} {ks : List NestedKey} (h : SeenAt P w K H d ks) (s : Same H H') : SeenAt P w K H' d ks := by
  obtain ⟨xs, h1, h2, h3⟩ := h
  exact ⟨xs, s _ _ h1, h2, fun y hy => let ⟨xss, z1, z2⟩ := h3 y hy; ⟨xss, z1, z2.tx (same_tx s)⟩⟩
theorem SeenAt.noTup {P : Program} {w : World} {K : PySem.W.Frag} {H : Hp} {d : Addr} {ks : List NestedKey} (h : SeenAt P w K H d ks) : NoTup (H d) := by
  obtain ⟨xs, h1, _⟩ := h
  rw [h1]
  exact trivial
theorem atKey_mem {K' : Type} [DecidableEq K'] (k : K') : ∀ xs : List (K' × Addr × Value), (atKey xs k).isSome = decide (k ∈ xs.map (·.1))
  | [] => by simp [atKey]
  | x :: xs => by
    have ih := atKey_mem k xs
    by_cases h : x.1 = k
    · simp [atKey, h]
    · have h' : ¬ k = x.1 := fun z => h z.symm
      have e : atKey (x :: xs) k = atKey xs k := by
        unfold atKey
        rw [List.find?_cons, decide_eq_false h]
      rw [e, ih]
      simp only [List.map_cons, List.mem_cons, h', false_or]
section
variable {X : Cx} {pins : List (Addr × Obj)} {σ : L2.St} {H : Hp} {s : Shared}
theorem seen_of (I : Inv X pins σ H s) {d : Addr} {xs : List (NestedKey × Addr × Value)} (h1 : H d = some (SeenO X.prog X.w d xs)) (h3 : ∀ x ∈ xs, ∃ xss, x.1 = stK xss ∧ StV X.K H x.2.1 xss) :
    (d == sysModules) = false ∧ s.heap.DictOfH (nestedKind X.prog X.w) d xs := by
  obtain ⟨⟨hd, o, es, ep, e1, e2, e3, e4, e5⟩, _, _⟩ := I.hok d _ h1
  refine ⟨hd, o, es, ep, e1, e2, e3, e4, fun y hy => ?_, e5⟩
  obtain ⟨xss, z1, z2⟩ := h3 y hy
  rw [z1]
  exact nk_st I z2
end
section
variable {X : Cx}
/-- x not in d -/
def rNotSeen (P : Program) (w : World) (K : PySem.W.Frag) : R2 := fun x y H Q => ∃ p d xss ks, x = .ref p ∧ y = .ref d ∧ StV K H p xss ∧ SeenAt P w K H d ks ∧ Q (.bl (!decide (stK xss ∈ ks))) H
theorem op_notSeen (P : Program) (w : World) (K : PySem.W.Frag) (hu : X.A.units + 64 < cLine) (hP : X.prog = P := by rfl) (hw : X.w = w := by rfl) (hK : X.K = K := by rfl) : OpR X (compareOp .NotIn) (rNotSeen P w K) := by
  subst hP hw hK
  intro pins s σ H x y v u Q I rx ry h
  obtain ⟨p, d, xss, ks, rfl, rfl, hp, ⟨xs, h1, h2, h3⟩, q⟩ := h
  obtain rfl : v = Value.ref p := rx
  obtain rfl : u = Value.ref d := ry
  obtain ⟨hd, hm⟩ := seen_of I h1 h3
  refine notIn_keyed (knd := nestedKind X.prog X.w) (by show X.A.units + 1 + 8 < cLine; omega) (nk_st I hp) hd ⟨xs, hm, rfl⟩ ?_
  rw [valueAt_pairsH, Option.isSome_map, atKey_mem, h2]
  exact ⟨.bl (!decide (stK xss ∈ ks)), H, I.tok _, rfl, q⟩
/-- d[x] = True, x not there yet -/
def rPutSeen (P : Program) (w : World) (K : PySem.W.Frag) : TSet := fun o i v H Q => ∃ d p xss ks, o = .ref d ∧ i = .ref p ∧ v = .bl true ∧ StV K H p xss ∧ SeenAt P w K H d ks ∧ stK xss ∉ ks ∧ ks.length ≤ sizeLine ∧
  ∀ ob : HO, SeenAt P w K (upd H d ob) d (ks ++ [stK xss]) → NoTup (H d) → Q (upd H d ob)
theorem set_seen (P : Program) (w : World) (K : PySem.W.Frag) (hu : X.A.units + 64 < cLine) (hP : X.prog = P := by rfl) (hw : X.w = w := by rfl) (hK : X.K = K := by rfl) : PSet X (rPutSeen P w K) := by
  subst hP hw hK
  intro pins s σ H o i v ov iv u Q I ro ri rv h
  obtain ⟨d, p, xss, ks, rfl, rfl, rfl, hp, hS, hn, hz, q⟩ := h
  have hnt := hS.noTup
  obtain ⟨xs, h1, h2, h3⟩ := hS
  obtain rfl : ov = Value.ref d := ro
  obtain rfl : iv = Value.ref p := ri
  obtain rfl : u = Value.bool true := rv
  obtain ⟨hd, hm⟩ := seen_of I h1 h3
  refine wpAny_setItem_heap (knd := nestedKind X.prog X.w) (hsz := by rw [← h2, List.length_map] at hz; exact hz) (by show X.A.units + 1 + 8 < cLine; omega) (nk_st I hp) hm fun h' dd' hs => ?_
  have hnone : (atKey xs (stK xss)).isSome = false := by rw [atKey_mem, h2]; exact decide_eq_false hn
  have e : storedH xs (stK xss) p (.bool true) = xs ++ [(stK xss, p, .bool true)] := by
    unfold storedH
    rw [hnone]
    rfl
  rw [e] at dd'
  obtain ⟨ob, es, ep, hq, z2, z3, z4, _, z5⟩ := dd'
  have hx : TExt H (upd H d (SeenO X.prog X.w d (xs ++ [(stK xss, p, .bool true)]))) := tx_upd hnt
  refine ⟨upd H d (SeenO X.prog X.w d (xs ++ [(stK xss, p, .bool true)])), d_write I (by rw [h1]; exact True.intro) hs ⟨ob, hq⟩ (seenO_ok ⟨hd, ob, es, ep, hq, z2, z3, z4, z5⟩), q _ ⟨_, upd_same, ?_, fun y hy => ?_⟩ hnt⟩
  · rw [List.map_append, h2]
    rfl
  · rcases List.mem_append.mp hy with hy | hy
    · obtain ⟨yss, w1, w2⟩ := h3 y hy
      exact ⟨yss, w1, w2.tx hx⟩
    · rw [List.mem_singleton.mp hy]
      exact ⟨xss, rfl, hp.tx hx⟩
/-- {x: True} -/
def tSeen1 (P : Program) (w : World) (K : PySem.W.Frag) (tk tv : TE) : TE := fun σ H Q => ∀ d, H d = none → tk σ (upd H d (SeenO P w d [])) fun x H1 => tv σ H1 fun v H2 => H2 d = some (SeenO P w d []) ∧ ∃ p xss, x = .ref p ∧ v = .bl true ∧ StV K H2 p xss ∧
  ∀ ob : HO, SeenAt P w K (upd H2 d ob) d [stK xss] → Q (.ref d) (upd H2 d ob)
theorem pe_seen1 (P : Program) (w : World) (K : PySem.W.Frag) {k v : Expr} {pos : Pos} {tk tv : TE} (hk : PE X k tk) (hv : PE X v tv) (hu : X.A.units + 64 < cLine) (hP : X.prog = P := by rfl) (hw : X.w = w := by rfl) (hK : X.K = K := by rfl) : PE X (.Dict [some k] [v] pos) (tSeen1 P w K tk tv) := by
  subst hP hw hK
  refine ⟨fun pins s σ H Q I q => ?_⟩
  have hn := I.hok.fresh (Nat.le_refl s.heap.objs.size)
  have I1 := I.laid (a := s.heap.objs.size) (o := SeenO X.prog X.w s.heap.objs.size []) (h' := s.heap.push { cls := .type "dict", data := .dict #[] }) (t' := s.toks) (fun _ _ q => Heap.get?_push_of_some _ q) (Nat.le_refl _)
    (seenO_ok ⟨beq_eq_false_iff_ne.mpr (Ne.symm (Nat.ne_of_lt I.big)), _, #[], 0, Heap.get?_push_size _ rfl, ⟨rfl, rfl, rfl⟩, rfl, rfl, List.nodup_nil⟩)
  rw [arm_eval_Dict, zip_pairTrees [some k] [v] X.env pos rfl rfl, dictDisplay_pairs (pairTrees [some k] [v] X.env pos) (fun z => nomatch z) (by show 1 < 17; decide)]
  refine wpAny_bind (wpAny_standAt (wpAny_bind (wpAny_subDictH (knd := nestedKind X.prog X.w) (Q := fun d s' => wpAny (model X.prog X.w) X.A (pure (Value.ref d)) (EP X pins σ Q) X.xe s') (by show X.A.units + 8 < cLine; omega) (by show 1 ≤ 15; decide) ?_)))
  refine pairTrees_cons_walk (thn (hk.run pins _ σ _ _ I1 (q _ hn)) fun uk s1 ⟨x, H1, J1, rx, q1⟩ => thn (hv.run pins s1 σ H1 _ J1 q1) fun uv s2 ⟨y, H2, J2, ry, e2, p, xss, ex, ey, hp, q2⟩ => ?_)
  refine pairTrees_nil_walk ?_
  subst ex ey
  obtain rfl : uk = Value.ref p := rx
  obtain rfl : uv = Value.bool true := ry
  obtain ⟨hd, hm⟩ := seen_of J2 e2 (fun _ z => nomatch z)
  refine ⟨[(stK xss, p, .bool true)], ⟨rfl, rfl, nk_st J2 hp, trivial⟩, hm, fun h' tk' dd' hs => wpAny_pure ?_⟩
  obtain ⟨ob, es, ep, hq, z2, z3, z4, _, z5⟩ := dd'
  have hx : TExt H2 (upd H2 s.heap.objs.size (SeenO X.prog X.w s.heap.objs.size [(stK xss, p, .bool true)])) := tx_upd (by rw [e2]; exact trivial)
  refine ⟨.ref s.heap.objs.size, _, d_write J2 (by rw [e2]; exact True.intro) hs ⟨ob, hq⟩ (seenO_ok ⟨hd, ob, es, ep, hq, z2, z3, z4, z5⟩), rfl, q2 _ ⟨_, upd_same, rfl, fun y hy => ?_⟩⟩
  rw [List.mem_singleton.mp hy]
  exact ⟨xss, rfl, hp.tx hx⟩
end
end Oa
namespace Oat
/-! ### a search through standings, unit by unit -/
structure Sq where
  sp : List Nat
  ld : List Nat
  st : List Nat
  cl : List Bool
  deriving DecidableEq
def near (L : List Nat) (h : Nat) : List Nat := kids L h ++ (if 0 < h then [L.getD (h - 1) 0] else [])
def goM (s : Sq) (c t : Nat) : Nat × Sq := (0, ⟨s.sp.set c t, s.ld.set c (s.ld.getD c 0 - 1), s.st, s.cl.set t true⟩)
def layM (s : Sq) (c : Nat) : Nat × Sq := (0, ⟨s.sp, s.ld.set c (s.ld.getD c 0 - 1), s.st.set (s.sp.getD c 0) (s.st.getD (s.sp.getD c 0) 0 + 1), s.cl⟩)
def tak0M (s : Sq) (c : Nat) : Nat × Sq := (1, ⟨s.sp, s.ld.set c (s.ld.getD c 0 + 1), s.st, s.cl⟩)
def takM (s : Sq) (c : Nat) : Nat × Sq := (0, ⟨s.sp, s.ld.set c (s.ld.getD c 0 + 1), s.st.set (s.sp.getD c 0) (s.st.getD (s.sp.getD c 0) 0 - 1), s.cl⟩)
def downs (L : List Nat) (s : Sq) (c : Nat) : List (Nat × Sq) := if 0 < s.ld.getD c 0 then (near L (s.sp.getD c 0)).map (goM s c) ++ (if 0 < s.sp.getD c 0 then [layM s c] else []) else []
def ups (room : Nat) (s : Sq) (c : Nat) : List (Nat × Sq) := if s.ld.getD c 0 < room then (if s.sp.getD c 0 = 0 then [tak0M s c] else if 0 < s.st.getD (s.sp.getD c 0) 0 then [takM s c] else []) else []
def cartM (L : List Nat) (room : Nat) (s : Sq) (c : Nat) : List (Nat × Sq) := downs L s c ++ ups room s c
def movesF (L : List Nat) (room carts : Nat) (s : Sq) : List (Nat × Sq) := (List.range carts).flatMap (cartM L room s)
def first (n carts : Nat) : Sq := ⟨List.replicate carts 0, List.replicate carts 0, List.replicate (n + 1) 0, true :: List.replicate n false⟩
def wantB (W : List (Option Nat)) (s : Sq) (i : Nat) : Bool := match W.getD (i + 1) none with
  | none => true
  | some u => s.cl.getD (i + 1) false && decide (u ≤ s.st.getD (i + 1) 0)
def goodF (W : List (Option Nat)) (left : Nat) (s : Sq) : Bool :=
  decide ((s.sp.filter fun p => decide (p ≠ 0)).length ≤ left) && (List.range (W.length - 1)).all (wantB W s)
inductive Reach (L : List Nat) (room carts : Nat) : Nat → Sq → Prop
  | start : Reach L room carts 0 (first L.length carts)
  | step {c m : Nat} {s t : Sq} : Reach L room carts c s → (m, t) ∈ movesF L room carts s → Reach L room carts (c + m) t
/-- a standing, as the search sees it -/
structure Ab (L : List Nat) (S : Stand) (s : Sq) : Prop where
  sp : S.spots = s.sp
  ld : S.loads = s.ld
  st : S.stores = s.st
  len : s.cl.length = L.length + 1
  cl : ∀ k, k ≤ L.length → s.cl.getD k false = decide (k ∈ S.seen)
theorem getD_setB (l : List Bool) (i j : Nat) (v : Bool) : (l.set i v).getD j false = if i = j ∧ i < l.length then v else l.getD j false := by
  rw [List.getD_eq_getElem?_getD, List.getElem?_set]
  by_cases h : i = j
  · subst h
    by_cases h2 : i < l.length
    · simp [h2]
    · simp [h2]
  · simp [h]
theorem ab_first (L : List Nat) (carts : Nat) : Ab L (stand0 (L.length + 1) carts) (first L.length carts) := by
  refine ⟨rfl, rfl, rfl, by simp [first], fun k hk => ?_⟩
  cases k with
  | zero => simp [first, stand0]
  | succ k =>
    have : ((true :: List.replicate L.length false).getD (k + 1) false) = false := by
      rw [List.getD_cons_succ, List.getD_eq_getElem?_getD, List.getElem?_replicate]
      split <;> rfl
    show (true :: List.replicate L.length false).getD (k + 1) false = _
    rw [this]
    simp [stand0]
theorem near_iff {L : List Nat} {p q : Nat} : q ∈ near L p ↔ (isOut L p q || isBack L p q) = true := by
  unfold near isOut isBack
  rw [List.mem_append, mem_kids]
  simp only [Bool.or_eq_true, Bool.and_eq_true, decide_eq_true_eq]
  constructor
  · rintro (⟨i, h1, h2, rfl⟩ | h)
    · left
      exact ⟨by omega, by omega, by simpa using h2⟩
    · right
      by_cases h0 : 0 < p
      · rw [if_pos h0, List.mem_singleton] at h
        exact ⟨h0, h.symm⟩
      · rw [if_neg h0] at h
        cases h
  · rintro (⟨h1, h2, h3⟩ | ⟨h1, h2⟩)
    · left
      exact ⟨q - 1, by omega, h3, by omega⟩
    · right
      rw [if_pos (by omega), List.mem_singleton]
      exact h2.symm
section
variable {L : List Nat} {room carts : Nat}
theorem ab_go {S S' : Stand} {s : Sq} {c x : Nat} (wf : WfL L) (ok : StOk (L.length + 1) carts S) (A : Ab L S s) (e : deedF L room S ⟨.go, c, x⟩ = some S') : x ∈ near L (s.sp.getD c 0) ∧ 0 < s.ld.getD c 0 ∧ Ab L S' (goM s c x).2 ∧ S'.taken = S.taken := by
  unfold deedF at e
  dsimp only at e
  split at e
  · rename_i h
    have e := Option.some.inj e
    have hn := near_iff.mpr h.1
    rw [A.sp] at hn
    rw [A.ld] at h
    refine ⟨hn, by omega, ?_, by rw [← e]⟩
    have hx : x < L.length + 1 := near_lt wf (ok.sp c) h.1
    refine ⟨by rw [← e]; show S.spots.set c x = s.sp.set c x; rw [A.sp], by rw [← e]; show S.loads.set c _ = s.ld.set c _; rw [A.ld], by rw [← e]; exact A.st, by show (s.cl.set x true).length = _; rw [List.length_set]; exact A.len, fun k hk => ?_⟩
    show (s.cl.set x true).getD k false = decide (k ∈ S'.seen)
    rw [getD_setB, ← e]
    show _ = decide (k ∈ S.seen ++ [x])
    by_cases hkx : x = k
    · rw [if_pos ⟨hkx, by rw [A.len]; exact hx⟩]
      simp [hkx]
    · rw [if_neg fun z => hkx z.1, A.cl k hk]
      have : ¬ k = x := fun z => hkx z.symm
      simp [this]
  · cases e
theorem go_ab {S : Stand} {s : Sq} {c x : Nat} (A : Ab L S s) (h1 : x ∈ near L (s.sp.getD c 0)) (h2 : 0 < s.ld.getD c 0) : ∃ S', deedF L room S ⟨.go, c, x⟩ = some S' := by
  unfold deedF
  dsimp only
  rw [A.sp, A.ld, if_pos ⟨near_iff.mp h1, by omega⟩]
  exact ⟨_, rfl⟩
theorem ab_lay {S S' : Stand} {s : Sq} {c x : Nat} (A : Ab L S s) (h0 : 0 < s.sp.getD c 0) (e : deedF L room S ⟨.lay, c, x⟩ = some S') :
    1 ≤ x ∧ x ≤ s.ld.getD c 0 ∧ Ab L S' ⟨s.sp, s.ld.set c (s.ld.getD c 0 - x), s.st.set (s.sp.getD c 0) (s.st.getD (s.sp.getD c 0) 0 + x), s.cl⟩ ∧ S'.taken = S.taken := by
  unfold deedF at e
  dsimp only at e
  split at e
  · rename_i h
    have e := Option.some.inj e
    have h0' : ¬ S.spots.getD c 0 = 0 := by rw [A.sp]; omega
    rw [if_neg h0', if_neg h0'] at e
    rw [A.ld] at h
    refine ⟨h.1, h.2, ⟨by rw [← e]; exact A.sp, by rw [← e]; show S.loads.set c _ = s.ld.set c _; rw [A.ld], ?_, A.len, by rw [← e]; exact A.cl⟩, by rw [← e]⟩
    rw [← e]
    show addAt S.stores (S.spots.getD c 0) x = _
    unfold addAt
    rw [A.st, A.sp]
  · cases e
theorem lay_ab {S : Stand} {s : Sq} {c : Nat} (A : Ab L S s) (h2 : 0 < s.ld.getD c 0) : ∃ S', deedF L room S ⟨.lay, c, 1⟩ = some S' := by
  unfold deedF
  dsimp only
  rw [A.ld, if_pos ⟨Nat.le_refl _, h2⟩]
  exact ⟨_, rfl⟩
theorem ab_take0 {S S' : Stand} {s : Sq} {c x : Nat} (A : Ab L S s) (h0 : s.sp.getD c 0 = 0) (e : deedF L room S ⟨.take, c, x⟩ = some S') :
    1 ≤ x ∧ s.ld.getD c 0 + x ≤ room ∧ Ab L S' ⟨s.sp, s.ld.set c (s.ld.getD c 0 + x), s.st, s.cl⟩ ∧ S'.taken = S.taken + x := by
  unfold deedF at e
  dsimp only at e
  split at e
  · rename_i h
    have e := Option.some.inj e
    have h0' : S.spots.getD c 0 = 0 := by rw [A.sp]; exact h0
    rw [if_pos h0', if_pos h0'] at e
    rw [A.ld] at h
    exact ⟨h.1, h.2.1, ⟨by rw [← e]; exact A.sp, by rw [← e]; show S.loads.set c _ = s.ld.set c _; rw [A.ld], by rw [← e]; exact A.st, A.len, by rw [← e]; exact A.cl⟩, by rw [← e]⟩
  · cases e
theorem ab_take {S S' : Stand} {s : Sq} {c x : Nat} (A : Ab L S s) (h0 : 0 < s.sp.getD c 0) (e : deedF L room S ⟨.take, c, x⟩ = some S') :
    1 ≤ x ∧ s.ld.getD c 0 + x ≤ room ∧ x ≤ s.st.getD (s.sp.getD c 0) 0 ∧ Ab L S' ⟨s.sp, s.ld.set c (s.ld.getD c 0 + x), s.st.set (s.sp.getD c 0) (s.st.getD (s.sp.getD c 0) 0 - x), s.cl⟩ ∧ S'.taken = S.taken := by
  unfold deedF at e
  dsimp only at e
  split at e
  · rename_i h
    have e := Option.some.inj e
    have h0' : ¬ S.spots.getD c 0 = 0 := by rw [A.sp]; omega
    rw [if_neg h0', if_neg h0'] at e
    have h3 := h.2.2.resolve_left h0'
    rw [A.ld] at h
    rw [A.st, A.sp] at h3
    refine ⟨h.1, h.2.1, h3, ⟨by rw [← e]; exact A.sp, by rw [← e]; show S.loads.set c _ = s.ld.set c _; rw [A.ld], ?_, A.len, by rw [← e]; exact A.cl⟩, by rw [← e]⟩
    rw [← e]
    show S.stores.set (S.spots.getD c 0) _ = _
    rw [A.st, A.sp]
  · cases e
theorem take_ab {S : Stand} {s : Sq} {c : Nat} (A : Ab L S s) (h1 : s.ld.getD c 0 < room) (h2 : s.sp.getD c 0 = 0 ∨ 0 < s.st.getD (s.sp.getD c 0) 0) : ∃ S', deedF L room S ⟨.take, c, 1⟩ = some S' := by
  unfold deedF
  dsimp only
  rw [A.sp, A.ld, A.st, if_pos ⟨Nat.le_refl _, h1, h2⟩]
  exact ⟨_, rfl⟩
/-! ### what the search reaches is a plan's standing -/
theorem move_deed {S : Stand} {s t : Sq} {m : Nat} (wf : WfL L) (ok : StOk (L.length + 1) carts S) (A : Ab L S s) (h : (m, t) ∈ movesF L room carts s) : ∃ d S', d.c < carts ∧ deedF L room S d = some S' ∧ Ab L S' t ∧ S'.taken = S.taken + m := by
  unfold movesF at h
  obtain ⟨c, hc, h⟩ := List.mem_flatMap.mp h
  have hc := List.mem_range.mp hc
  unfold cartM at h
  rcases List.mem_append.mp h with h | h
  · unfold downs at h
    by_cases hl : 0 < s.ld.getD c 0
    · rw [if_pos hl] at h
      rcases List.mem_append.mp h with h | h
      · obtain ⟨x, hx, e⟩ := List.mem_map.mp h
        obtain ⟨S', e1⟩ := go_ab (room := room) A hx hl
        obtain ⟨_, _, A', ht⟩ := ab_go wf ok A e1
        rw [e] at A'
        have hm : m = 0 := (congrArg Prod.fst e).symm
        exact ⟨⟨.go, c, x⟩, S', hc, e1, A', by rw [ht, hm]; simp⟩
      · by_cases h0 : 0 < s.sp.getD c 0
        · rw [if_pos h0, List.mem_singleton] at h
          obtain ⟨S', e1⟩ := lay_ab (room := room) A hl
          obtain ⟨_, _, A', ht⟩ := ab_lay A h0 e1
          have hm : m = 0 := congrArg Prod.fst h
          have h2 : t = (layM s c).2 := congrArg Prod.snd h
          exact ⟨⟨.lay, c, 1⟩, S', hc, e1, by rw [h2]; exact A', by rw [ht, hm]; simp⟩
        · rw [if_neg h0] at h
          cases h
    · rw [if_neg hl] at h
      cases h
  · unfold ups at h
    by_cases hl : s.ld.getD c 0 < room
    · rw [if_pos hl] at h
      by_cases h0 : s.sp.getD c 0 = 0
      · rw [if_pos h0, List.mem_singleton] at h
        obtain ⟨S', e1⟩ := take_ab A hl (.inl h0)
        obtain ⟨_, _, A', ht⟩ := ab_take0 A h0 e1
        have hm : m = 1 := congrArg Prod.fst h
        have h2 : t = (tak0M s c).2 := congrArg Prod.snd h
        exact ⟨⟨.take, c, 1⟩, S', hc, e1, by rw [h2]; exact A', by rw [ht, hm]⟩
      · rw [if_neg h0] at h
        by_cases h1 : 0 < s.st.getD (s.sp.getD c 0) 0
        · rw [if_pos h1, List.mem_singleton] at h
          obtain ⟨S', e1⟩ := take_ab A hl (.inr h1)
          obtain ⟨_, _, _, A', ht⟩ := ab_take A (by omega) e1
          have hm : m = 0 := congrArg Prod.fst h
          have h2 : t = (takM s c).2 := congrArg Prod.snd h
          exact ⟨⟨.take, c, 1⟩, S', hc, e1, by rw [h2]; exact A', by rw [ht, hm]; simp⟩
        · rw [if_neg h1] at h
          cases h
    · rw [if_neg hl] at h
      cases h
theorem reach_plan (wf : WfL L) {n : Nat} {s : Sq} (h : Reach L room carts n s) : ∃ ds S, standF L room carts ds = .inr S ∧ StOk (L.length + 1) carts S ∧ Ab L S s ∧ S.taken = n ∧ ∀ d ∈ ds, d.c < carts := by
  induction h with
  | start => exact ⟨[], _, rfl, ok_stand0 (by omega), ab_first L carts, rfl, fun d z => nomatch z⟩
  | step _ hm ih =>
    obtain ⟨ds, S, h1, h2, h3, h4, h5⟩ := ih
    obtain ⟨d, S', e0, e1, e2, e3⟩ := move_deed wf h2 h3 hm
    refine ⟨ds ++ [d], S', ?_, ok_deed wf h2 e1, e2, by rw [e3, h4]; simp, fun x hx => ?_⟩
    · unfold standF at h1 ⊢
      rw [run_snoc, h1]
      dsimp only
      rw [e1]
    · rcases List.mem_append.mp hx with z | z
      · exact h5 x z
      · rw [List.mem_singleton.mp z]
        exact e0
/-! ### a plan with no laying at the base is gone through by the search -/
theorem set_set' (l : List Nat) (i a b : Nat) : (l.set i a).set i b = l.set i b := by rw [List.set_set]
theorem mem_moves {s : Sq} {c : Nat} {x : Nat × Sq} (hc : c < carts) (h : x ∈ cartM L room s c) : x ∈ movesF L room carts s := List.mem_flatMap.mpr ⟨c, List.mem_range.mpr hc, h⟩
theorem lays {s : Sq} {c n : Nat} (hc : c < carts) (hl : c < s.ld.length) (hs : s.sp.getD c 0 < s.st.length) (h0 : 0 < s.sp.getD c 0) (R : Reach L room carts n s) : ∀ x, x ≤ s.ld.getD c 0 → Reach L room carts n ⟨s.sp, s.ld.set c (s.ld.getD c 0 - x), s.st.set (s.sp.getD c 0) (s.st.getD (s.sp.getD c 0) 0 + x), s.cl⟩
  | 0, _ => by
    have e1 : s.ld.set c (s.ld.getD c 0 - 0) = s.ld := by
      rw [Nat.sub_zero, List.getD_eq_getElem?_getD, List.getElem?_eq_getElem hl]
      exact List.set_getElem_self hl
    have e2 : s.st.set (s.sp.getD c 0) (s.st.getD (s.sp.getD c 0) 0 + 0) = s.st := by
      rw [Nat.add_zero, List.getD_eq_getElem?_getD (l := s.st), List.getElem?_eq_getElem hs]
      exact List.set_getElem_self hs
    rw [e1, e2]
    exact R
  | x + 1, hx => by
    have ih := lays hc hl hs h0 R x (by omega)
    refine Reach.step (m := 0) ih (mem_moves hc ?_)
    unfold cartM
    refine List.mem_append_left _ ?_
    unfold downs
    have g1 : (s.ld.set c (s.ld.getD c 0 - x)).getD c 0 = s.ld.getD c 0 - x := by rw [getD_set, if_pos ⟨rfl, hl⟩]
    have g2 : (s.st.set (s.sp.getD c 0) (s.st.getD (s.sp.getD c 0) 0 + x)).getD (s.sp.getD c 0) 0 = s.st.getD (s.sp.getD c 0) 0 + x := by rw [getD_set, if_pos ⟨rfl, hs⟩]
    dsimp only
    rw [g1, if_pos (by omega)]
    refine List.mem_append_right _ ?_
    rw [if_pos h0, List.mem_singleton]
    unfold layM
    dsimp only
    rw [g1, g2, set_set', set_set', show s.ld.getD c 0 - x - 1 = s.ld.getD c 0 - (x + 1) by omega, show s.st.getD (s.sp.getD c 0) 0 + x + 1 = s.st.getD (s.sp.getD c 0) 0 + (x + 1) by omega]
theorem takes0 {s : Sq} {c n : Nat} (hc : c < carts) (hl : c < s.ld.length) (h0 : s.sp.getD c 0 = 0) (R : Reach L room carts n s) : ∀ x, s.ld.getD c 0 + x ≤ room → Reach L room carts (n + x) ⟨s.sp, s.ld.set c (s.ld.getD c 0 + x), s.st, s.cl⟩
  | 0, _ => by
    have e1 : s.ld.set c (s.ld.getD c 0 + 0) = s.ld := by
      rw [Nat.add_zero, List.getD_eq_getElem?_getD, List.getElem?_eq_getElem hl]
      exact List.set_getElem_self hl
    rw [e1]
    exact R
  | x + 1, hx => by
    have ih := takes0 hc hl h0 R x (by omega)
    refine Reach.step (m := 1) ih (mem_moves hc ?_)
    unfold cartM
    refine List.mem_append_right _ ?_
    unfold ups
    have g1 : (s.ld.set c (s.ld.getD c 0 + x)).getD c 0 = s.ld.getD c 0 + x := by rw [getD_set, if_pos ⟨rfl, hl⟩]
    dsimp only
    rw [g1, if_pos (by omega), if_pos h0, List.mem_singleton]
    unfold tak0M
    dsimp only
    rw [g1, set_set', show s.ld.getD c 0 + x + 1 = s.ld.getD c 0 + (x + 1) by omega]
theorem takesP {s : Sq} {c n : Nat} (hc : c < carts) (hl : c < s.ld.length) (hs : s.sp.getD c 0 < s.st.length) (h0 : 0 < s.sp.getD c 0) (R : Reach L room carts n s) : ∀ x, s.ld.getD c 0 + x ≤ room → x ≤ s.st.getD (s.sp.getD c 0) 0 → Reach L room carts n ⟨s.sp, s.ld.set c (s.ld.getD c 0 + x), s.st.set (s.sp.getD c 0) (s.st.getD (s.sp.getD c 0) 0 - x), s.cl⟩
  | 0, _, _ => by
    have e1 : s.ld.set c (s.ld.getD c 0 + 0) = s.ld := by
      rw [Nat.add_zero, List.getD_eq_getElem?_getD, List.getElem?_eq_getElem hl]
      exact List.set_getElem_self hl
    have e2 : s.st.set (s.sp.getD c 0) (s.st.getD (s.sp.getD c 0) 0 - 0) = s.st := by
      rw [Nat.sub_zero, List.getD_eq_getElem?_getD (l := s.st), List.getElem?_eq_getElem hs]
      exact List.set_getElem_self hs
    rw [e1, e2]
    exact R
  | x + 1, hx, hy => by
    have ih := takesP hc hl hs h0 R x (by omega) (by omega)
    refine Reach.step (m := 0) ih (mem_moves hc ?_)
    unfold cartM
    refine List.mem_append_right _ ?_
    unfold ups
    have g1 : (s.ld.set c (s.ld.getD c 0 + x)).getD c 0 = s.ld.getD c 0 + x := by rw [getD_set, if_pos ⟨rfl, hl⟩]
    have g2 : (s.st.set (s.sp.getD c 0) (s.st.getD (s.sp.getD c 0) 0 - x)).getD (s.sp.getD c 0) 0 = s.st.getD (s.sp.getD c 0) 0 - x := by rw [getD_set, if_pos ⟨rfl, hs⟩]
    dsimp only
    rw [g1, g2, if_pos (by omega), if_neg (by omega), if_pos (by omega), List.mem_singleton]
    unfold takM
    dsimp only
    rw [g1, g2, set_set', set_set', show s.ld.getD c 0 + x + 1 = s.ld.getD c 0 + (x + 1) by omega, show s.st.getD (s.sp.getD c 0) 0 - x - 1 = s.st.getD (s.sp.getD c 0) 0 - (x + 1) by omega]
theorem deed_reach {S S' : Stand} {s : Sq} {d : Deed} {n : Nat} (wf : WfL L) (ok : StOk (L.length + 1) carts S) (hc : d.c < carts) (A : Ab L S s) (R : Reach L room carts n s) (hn : S.taken = n) (e : deedF L room S d = some S') (hl : d.w = .lay → 0 < S.spots.getD d.c 0) :
    ∃ (s' : Sq) (n' : Nat), Ab L S' s' ∧ Reach L room carts n' s' ∧ S'.taken = n' := by
  obtain ⟨wd, c, x⟩ := d
  have hcl : c < s.ld.length := by rw [← A.ld, ok.l2]; exact hc
  have hst : s.sp.getD c 0 < s.st.length := by rw [← A.sp, ← A.st, ok.l3]; exact ok.sp c
  cases wd with
  | go =>
    obtain ⟨h1, h2, A', ht⟩ := ab_go wf ok A e
    refine ⟨_, n + 0, A', Reach.step (m := 0) R (mem_moves hc ?_), by rw [ht, hn]; rfl⟩
    show goM s c x ∈ _
    unfold cartM
    refine List.mem_append_left _ ?_
    unfold downs
    rw [if_pos h2]
    exact List.mem_append_left _ (List.mem_map.mpr ⟨x, h1, rfl⟩)
  | lay =>
    have h0 := hl rfl
    rw [A.sp] at h0
    obtain ⟨h1, h2, A', ht⟩ := ab_lay A h0 e
    exact ⟨_, n, A', lays hc hcl hst h0 R x h2, by rw [ht, hn]⟩
  | take =>
    by_cases h0 : s.sp.getD c 0 = 0
    · obtain ⟨h1, h2, A', ht⟩ := ab_take0 A h0 e
      exact ⟨_, n + x, A', takes0 hc hcl h0 R x h2, by rw [ht, hn]; simp⟩
    · have h0' : 0 < s.sp.getD c 0 := by omega
      obtain ⟨h1, h2, h3, A', ht⟩ := ab_take A h0' e
      exact ⟨_, n, A', takesP hc hcl hst h0' R x h2 h3, by rw [ht, hn]⟩
/-- each laying comes right behind a going to a place that is not the base -/
def LayOk : Option (Nat × Nat) → List Deed → Prop
  | _, [] => True
  | pr, d :: ds => (d.w = .lay → ∃ k, pr = some (d.c, k) ∧ 1 ≤ k) ∧ LayOk (if d.w = .go then some (d.c, d.x) else none) ds
theorem LayOk.any {ds : List Deed} (h : LayOk none ds) (pr : Option (Nat × Nat)) : LayOk pr ds := by
  cases ds with
  | nil => exact trivial
  | cons d ds => exact ⟨(fun z => by obtain ⟨k, e, _⟩ := h.1 z; cases e), h.2⟩
theorem LayOk.app : ∀ {ds es : List Deed} {pr : Option (Nat × Nat)}, LayOk pr ds → LayOk none es → LayOk pr (ds ++ es)
  | [], es, pr, _, h2 => h2.any pr
  | d :: ds, es, pr, h1, h2 => ⟨h1.1, LayOk.app h1.2 h2⟩
theorem run_reach (wf : WfL L) : ∀ {ds : List Deed} {pr : Option (Nat × Nat)} {i n : Nat} {S S' : Stand} {s : Sq}, (∀ c k, pr = some (c, k) → S.spots.getD c 0 = k) → LayOk pr ds → (∀ d ∈ ds, d.c < carts) → StOk (L.length + 1) carts S → Ab L S s → Reach L room carts n s → S.taken = n → runF L room i S ds = .inr S' →
    ∃ (s' : Sq) (n' : Nat), Ab L S' s' ∧ Reach L room carts n' s' ∧ S'.taken = n'
  | [], _, _, n, _, _, s, _, _, _, _, A, R, hn, e => by
    cases e
    exact ⟨s, n, A, R, hn⟩
  | d :: ds, pr, i, n, S, S', s, hp, hl, hc, ok, A, R, hn, e => by
    unfold runF at e
    cases hd : deedF L room S d with
    | none => rw [hd] at e; cases e
    | some S1 =>
      rw [hd] at e
      have hdc := hc d List.mem_cons_self
      obtain ⟨s1, n1, A1, R1, h1⟩ := deed_reach wf ok hdc A R hn hd (fun z => by
        obtain ⟨k, e1, e2⟩ := hl.1 z
        rw [hp _ _ e1]
        exact e2)
      refine run_reach wf (pr := if d.w = .go then some (d.c, d.x) else none) (fun c k z => ?_) hl.2 (fun x hx => hc x (List.mem_cons_of_mem _ hx)) (ok_deed wf ok hd) A1 R1 h1 e
      by_cases hg : d.w = .go
      · rw [if_pos hg] at z
        have z := Option.some.inj z
        obtain ⟨wd, dc, dx⟩ := d
        have hg : wd = .go := hg
        subst hg
        obtain ⟨_, _, A2, _⟩ := ab_go wf ok A hd
        rw [A2.sp]
        have z1 : dc = c := congrArg Prod.fst z
        have z2 : dx = k := congrArg Prod.snd z
        subst z1 z2
        show (s.sp.set dc dx).getD dc 0 = dx
        have hcl : dc < s.sp.length := by rw [← A.sp, ok.l1]; exact hdc
        rw [getD_set, if_pos ⟨rfl, hcl⟩]
      · rw [if_neg hg] at z
        cases z
end
/-! ### the made plan lays nothing at the base -/
theorem layOk_lay {c k x : Nat} {ds : List Deed} (hk : 1 ≤ k) (h : LayOk none ds) : LayOk (some (c, k)) (addD .lay c x ++ ds) := by
  unfold addD
  by_cases hx : x = 0
  · rw [if_pos hx]
    exact h.any _
  · rw [if_neg hx]
    exact ⟨fun _ => ⟨k, rfl, hk⟩, h⟩
theorem layOk_take {c x : Nat} {ds : List Deed} (h : LayOk none ds) : LayOk none (addD .take c x ++ ds) := by
  unfold addD
  by_cases hx : x = 0
  · rw [if_pos hx]
    exact h
  · rw [if_neg hx]
    exact ⟨fun z => (nomatch z), h⟩
theorem layOk_go {c k : Nat} {ds : List Deed} (h : LayOk (some (c, k)) ds) : LayOk none (goD c k :: ds) := ⟨fun z => (nomatch z), h⟩
theorem layOk_bring {room k ahead : Nat} {carts : List Nat} (hk : 1 ≤ k) : ∀ (r rest : Nat), LayOk none (bringF room k ahead carts r rest)
  | 0, _ => trivial
  | r + 1, rest => by
    unfold bringF
    split
    · exact layOk_take (layOk_go (layOk_lay hk (layOk_bring hk r _)))
    · exact layOk_take (layOk_go (layOk_lay hk (layOk_go ((layOk_bring hk r _).any _))))
theorem kid_pos {L : List Nat} {p k : Nat} (h : k ∈ kids L p) : 1 ≤ k := by
  obtain ⟨i, _, _, rfl⟩ := mem_kids.mp h
  omega
theorem layOk_zero {c : Case} {cs : List Nat} {sf : Nat → List Nat → List Deed} {p : Nat} {carts : List Nat} (hs : ∀ k cs', LayOk none (sf k cs')) : ∀ ks : List Nat, (∀ k ∈ ks, 1 ≤ k) → LayOk none (zeroF c cs sf p carts ks)
  | [], _ => trivial
  | k :: ks, h => by
    unfold zeroF
    refine LayOk.app ?_ (layOk_zero hs ks fun x hx => h x (List.mem_cons_of_mem _ hx))
    split
    · refine LayOk.app (layOk_bring (h k List.mem_cons_self) _ _) (LayOk.app (hs _ _) ⟨fun z => (nomatch z), fun z => (nomatch z), trivial⟩)
    · exact trivial
theorem layOk_pos {c : Case} {cs : List Nat} {sf : Nat → List Nat → List Deed} {carts : List Nat} (hs : ∀ k cs', LayOk none (sf k cs')) : ∀ (ks : List Nat) (i : Nat), (∀ k ∈ ks, 1 ≤ k) → LayOk none (posF c cs sf carts i ks)
  | [], _, _ => trivial
  | k :: ks, i, h => by
    unfold posF
    exact LayOk.app (LayOk.app (layOk_bring (h k List.mem_cons_self) _ _) (hs _ _)) (layOk_pos hs ks _ fun x hx => h x (List.mem_cons_of_mem _ hx))
theorem layOk_serve (c : Case) (cs : List Nat) : ∀ (f p : Nat) (carts : List Nat), LayOk none (serveF c cs f p carts)
  | 0, _, _ => trivial
  | f + 1, p, carts => by
    unfold serveF
    exact LayOk.app (layOk_zero (layOk_serve c cs f) _ fun k hk => kid_pos (List.mem_filter.mp hk).1) (layOk_pos (layOk_serve c cs f) _ _ fun k hk => kid_pos (List.mem_filter.mp hk).1)
/-! ### good standings -/
theorem good_meets {L : List Nat} {W : List (Option Nat)} {left : Nat} {S : Stand} {s : Sq} (A : Ab L S s) (hW : W.length = L.length + 1) (h0 : W.getD 0 none = none) : goodF W left s = meetsB W left S := by
  unfold goodF meetsB
  congr 1
  · unfold awayN
    rw [A.sp]
  · rw [hW, Bool.eq_iff_iff, List.all_eq_true, List.all_eq_true]
    constructor
    · intro h p hp
      have hp := List.mem_range.mp hp
      unfold metAt
      cases p with
      | zero =>
        rw [h0]
        rfl
      | succ i =>
        have := h i (List.mem_range.mpr (by omega))
        unfold wantB at this
        unfold wantN
        cases e : W.getD (i + 1) none with
        | none => simp
        | some u =>
          rw [e] at this
          dsimp only at this
          rw [Bool.and_eq_true, decide_eq_true_eq, A.cl _ (by omega), ← A.st] at this
          simp only [Option.isNone_some, Bool.false_or, this.1, Bool.true_and, Bool.or_eq_true, decide_eq_true_eq]
          right
          have := this.2
          omega
    · intro h i hi
      have hi := List.mem_range.mp hi
      have := h (i + 1) (List.mem_range.mpr (by omega))
      unfold metAt wantN at this
      unfold wantB
      cases e : W.getD (i + 1) none with
      | none => rfl
      | some u =>
        rw [e] at this
        dsimp only at this ⊢
        simp only [Option.isNone_some, Bool.false_or, Bool.and_eq_true, Bool.or_eq_true, decide_eq_true_eq] at this
        rw [Bool.and_eq_true, decide_eq_true_eq, A.cl _ (by omega), ← A.st, decide_eq_true_eq]
        refine ⟨this.1, ?_⟩
        have := this.2.resolve_left (by omega)
        omega
/-- what the search finds is no less than the least -/
theorem found_least {c : Case} {carts n : Nat} {s : Sq} (wf : WfL c.L) (h2 : 2 ≤ c.room) (hW : c.W.length = c.L.length + 1) (h0 : c.W.getD 0 none = none) (R : Reach c.L c.room carts n s) (hg : goodF c.W c.left s = true) : ∃ v, least c = some v ∧ v ≤ n := by
  obtain ⟨ds, S, h1, _, A, ht, hc⟩ := reach_plan wf R
  rw [good_meets A hW h0] at hg
  obtain ⟨v, e, hv⟩ := right_least (c := c) wf h2 hc h1 hg hW
  refine ⟨v, e, ?_⟩
  have : wantN c.W 0 = 0 := by unfold wantN; rw [h0]
  omega
/-- the least is found -/
theorem least_found {c : Case} {carts : Nat} {v : Int} (wf : WfL c.L) (hn : c.L.length < 30) (h2 : 2 ≤ c.room) (hN : 1 ≤ carts) (hl : c.left ≤ carts) (hW : c.W.length = c.L.length + 1) (h0 : c.W.getD 0 none = none) (h : least c = some v) : ∃ (n : Nat) (s : Sq), Reach c.L c.room carts n s ∧ goodF c.W c.left s = true ∧ v = n := by
  obtain ⟨cs, hcs⟩ : ∃ cs, told c = some cs := by
    unfold least at h
    unfold told
    obtain ⟨m, hm, _⟩ := Option.map_eq_some_iff.mp h
    rw [hm]
    exact ⟨_, rfl⟩
  obtain ⟨S, v2, e1, hst, hm, ht, _, hc⟩ := made_right (c := c) (cs := cs) (N := carts) wf hn h2 hN hl hW hcs
  rw [h] at e1
  have e1 := Option.some.inj e1
  subst e1
  obtain ⟨s, n, A, R, hn⟩ := run_reach (carts := carts) (pr := none) wf (fun _ _ z => nomatch z) (layOk_serve c cs 30 0 (List.range carts)) hc (ok_stand0 (by omega)) (ab_first c.L carts) (Reach.start (room := c.room)) rfl hst
  refine ⟨n, s, R, by rw [good_meets A hW h0]; exact hm, ?_⟩
  have : wantN c.W 0 = 0 := by unfold wantN; rw [h0]
  omega
end Oat
namespace Oat
/-! ### the search's invariants -/
section
variable (L : List Nat) (room carts : Nat) (W : List (Option Nat)) (left : Nat)
/-- gone through: its moves are seen, or will be -/
def Thru (seen later : List Sq) (s : Sq) : Prop := goodF W left s = false ∧ ∀ m t, (m, t) ∈ movesF L room carts s → t ∈ seen ∨ (m = 1 ∧ t ∈ later)
structure Out (n : Nat) (seen layer : List Sq) : Prop where
  old : ∀ c s, c < n → Reach L room carts c s → s ∈ seen ∧ Thru L room carts W left seen [] s
  cl : ∀ s ∈ seen, s ∈ layer ∨ Thru L room carts W left seen [] s
  rc : ∀ s ∈ layer, Reach L room carts n s
  f : first L.length carts ∈ seen
structure Wh (n : Nat) (seen layer later : List Sq) (i : Nat) : Prop where
  old : ∀ c s, c < n → Reach L room carts c s → s ∈ seen ∧ Thru L room carts W left seen [] s
  cl : ∀ s ∈ seen, (∃ j, i ≤ j ∧ layer[j]? = some s) ∨ Thru L room carts W left seen later s
  rc : ∀ s ∈ layer, Reach L room carts n s
  rl : ∀ s ∈ later, Reach L room carts (n + 1) s
  f : first L.length carts ∈ seen
structure Mv (n : Nat) (seen layer later : List Sq) (i : Nat) (x : Sq) (j : Nat) : Prop where
  wh : Wh L room carts W left n seen layer later i
  at_ : layer[i]? = some x
  pt : ∀ (k : Nat) m t, k < j → (movesF L room carts x)[k]? = some (m, t) → t ∈ seen ∨ (m = 1 ∧ t ∈ later)
structure Fi (n : Nat) (later seen layer : List Sq) (j : Nat) : Prop where
  old : ∀ c s, c < n + 1 → Reach L room carts c s → s ∈ seen ∧ Thru L room carts W left seen later s
  cl : ∀ s ∈ seen, s ∈ layer ∨ Thru L room carts W left seen later s
  rc : ∀ s ∈ layer, Reach L room carts (n + 1) s
  f : first L.length carts ∈ seen
  pt : ∀ (k : Nat) t, k < j → later[k]? = some t → t ∈ seen
end
section
variable {L : List Nat} {room carts : Nat} {W : List (Option Nat)} {left n : Nat} {seen layer later : List Sq}
theorem Thru.mono {s : Sq} {seen' later' : List Sq} (h : Thru L room carts W left seen later s) (h1 : ∀ t ∈ seen, t ∈ seen') (h2 : ∀ t ∈ later, t ∈ later') : Thru L room carts W left seen' later' s :=
  ⟨h.1, fun m t hm => (h.2 m t hm).elim (fun z => .inl (h1 t z)) fun z => .inr ⟨z.1, h2 t z.2⟩⟩
theorem out_first : Out L room carts W left 0 [first L.length carts] [first L.length carts] :=
  ⟨fun c s h => absurd h (Nat.not_lt_zero c), fun s h => .inl h, fun s h => by rw [List.mem_singleton.mp h]; exact Reach.start, List.mem_singleton.mpr rfl⟩
theorem Out.wh (h : Out L room carts W left n seen layer) : Wh L room carts W left n seen layer [] 0 :=
  ⟨h.old, fun s hs => (h.cl s hs).imp (fun z => by obtain ⟨j, hj⟩ := List.mem_iff_getElem?.mp z; exact ⟨j, Nat.zero_le _, hj⟩) id, h.rc, fun s z => (nomatch z), h.f⟩
theorem Wh.mv {i : Nat} {x : Sq} (h : Wh L room carts W left n seen layer later i) (hx : layer[i]? = some x) : Mv L room carts W left n seen layer later i x 0 := ⟨h, hx, fun k m t hk => absurd hk (Nat.not_lt_zero k)⟩
theorem mem_snoc {α : Type} {l : List α} {x t : α} (h : t ∈ l) : t ∈ l ++ [x] := List.mem_append_left _ h
theorem last_snoc {α : Type} {l : List α} {x : α} : x ∈ l ++ [x] := List.mem_append_right _ (List.mem_singleton.mpr rfl)
/-- a move that takes: later -/
theorem Mv.late {i j : Nat} {x t : Sq} (h : Mv L room carts W left n seen layer later i x j) (hm : (movesF L room carts x)[j]? = some (1, t)) : Mv L room carts W left n seen layer (later ++ [t]) i x (j + 1) := by
  refine ⟨⟨h.wh.old, fun s hs => (h.wh.cl s hs).imp id fun z => z.mono (fun _ y => y) fun _ y => mem_snoc y, h.wh.rc, fun s hs => ?_, h.wh.f⟩, h.at_, fun k m u hk hu => ?_⟩
  · rcases List.mem_append.mp hs with z | z
    · exact h.wh.rl s z
    · rw [List.mem_singleton.mp z]
      exact Reach.step (h.wh.rc x (List.mem_of_getElem? h.at_)) (List.mem_of_getElem? hm)
  · by_cases e : k = j
    · subst e
      rw [hm] at hu
      have hu := Option.some.inj hu
      obtain ⟨rfl, rfl⟩ := Prod.mk.inj hu
      exact .inr ⟨rfl, last_snoc⟩
    · exact (h.pt k m u (by omega) hu).imp id fun z => ⟨z.1, mem_snoc z.2⟩
/-- a move to a standing that is seen already -/
theorem Mv.known {i j m : Nat} {x t : Sq} (h : Mv L room carts W left n seen layer later i x j) (hm : (movesF L room carts x)[j]? = some (m, t)) (ht : t ∈ seen) : Mv L room carts W left n seen layer later i x (j + 1) := by
  refine ⟨h.wh, h.at_, fun k m' u hk hu => ?_⟩
  by_cases e : k = j
  · subst e
    rw [hm] at hu
    have hu := Option.some.inj hu
    obtain ⟨rfl, rfl⟩ := Prod.mk.inj hu
    exact .inl ht
  · exact h.pt k m' u (by omega) hu
/-- a move to a new one -/
theorem Mv.fresh {i j : Nat} {x t : Sq} (h : Mv L room carts W left n seen layer later i x j) (hm : (movesF L room carts x)[j]? = some (0, t)) : Mv L room carts W left n (seen ++ [t]) (layer ++ [t]) later i x (j + 1) := by
  have hil : i < layer.length := (List.getElem?_eq_some_iff.mp h.at_).1
  have hat : (layer ++ [t])[i]? = some x := by rw [List.getElem?_append_left hil]; exact h.at_
  refine ⟨⟨fun c s hc hr => ?_, fun s hs => ?_, fun s hs => ?_, h.wh.rl, mem_snoc h.wh.f⟩, hat, fun k m u hk hu => ?_⟩
  · obtain ⟨z1, z2⟩ := h.wh.old c s hc hr
    exact ⟨mem_snoc z1, z2.mono (fun _ y => mem_snoc y) fun _ y => y⟩
  · rcases List.mem_append.mp hs with z | z
    · refine (h.wh.cl s z).imp (fun ⟨j', h1, h2⟩ => ⟨j', h1, ?_⟩) fun z => z.mono (fun _ y => mem_snoc y) fun _ y => y
      rw [List.getElem?_append_left (List.getElem?_eq_some_iff.mp h2).1]
      exact h2
    · left
      rw [List.mem_singleton.mp z]
      exact ⟨layer.length, by omega, by rw [List.getElem?_append_right (Nat.le_refl _), Nat.sub_self]; rfl⟩
  · rcases List.mem_append.mp hs with z | z
    · exact h.wh.rc s z
    · rw [List.mem_singleton.mp z]
      exact Reach.step (m := 0) (h.wh.rc x (List.mem_of_getElem? h.at_)) (List.mem_of_getElem? hm)
  · by_cases e : k = j
    · subst e
      rw [hm] at hu
      have hu := Option.some.inj hu
      obtain ⟨rfl, rfl⟩ := Prod.mk.inj hu
      exact .inl last_snoc
    · exact (h.pt k m u (by omega) hu).imp (fun z => mem_snoc z) id
theorem Mv.next {i : Nat} {x : Sq} (h : Mv L room carts W left n seen layer later i x (movesF L room carts x).length) (hg : goodF W left x = false) : Wh L room carts W left n seen layer later (i + 1) := by
  refine ⟨h.wh.old, fun s hs => ?_, h.wh.rc, h.wh.rl, h.wh.f⟩
  rcases h.wh.cl s hs with ⟨j, h1, h2⟩ | z
  · by_cases e : j = i
    · subst e
      rw [h.at_] at h2
      have h2 := Option.some.inj h2
      subst h2
      refine .inr ⟨hg, fun m t hm => ?_⟩
      obtain ⟨k, hk⟩ := List.mem_iff_getElem?.mp hm
      exact h.pt k m t (List.getElem?_eq_some_iff.mp hk).1 hk
    · exact .inl ⟨j, by omega, h2⟩
  · exact .inr z
theorem Wh.all (h : Wh L room carts W left n seen layer later layer.length) : ∀ s ∈ seen, Thru L room carts W left seen later s := fun s hs => by
  rcases h.cl s hs with ⟨j, h1, h2⟩ | z
  · have := (List.getElem?_eq_some_iff.mp h2).1
    omega
  · exact z
theorem Wh.reach (h : Wh L room carts W left n seen layer later layer.length) {c : Nat} {s : Sq} (hr : Reach L room carts c s) : c ≤ n → s ∈ seen := by
  induction hr with
  | start => exact fun _ => h.f
  | @step c m s t hr hm ih =>
    intro hc
    have hs := ih (by omega)
    rcases (h.all s hs).2 m t hm with z | ⟨rfl, _⟩
    · exact z
    · rcases (h.old c s (by omega) hr).2.2 1 t hm with z | ⟨_, z⟩
      · exact z
      · cases z
theorem Wh.fi (h : Wh L room carts W left n seen layer later layer.length) : Fi L room carts W left n later seen [] 0 :=
  ⟨fun c s hc hr => ⟨h.reach hr (by omega), h.all s (h.reach hr (by omega))⟩, fun s hs => .inr (h.all s hs), fun s z => (nomatch z), h.f, fun k t hk => absurd hk (Nat.not_lt_zero k)⟩
theorem Fi.known {j : Nat} {t : Sq} (h : Fi L room carts W left n later seen layer j) (hj : later[j]? = some t) (ht : t ∈ seen) : Fi L room carts W left n later seen layer (j + 1) := by
  refine ⟨h.old, h.cl, h.rc, h.f, fun k u hk hu => ?_⟩
  by_cases e : k = j
  · subst e
    rw [hj] at hu
    have hu := Option.some.inj hu
    subst hu
    exact ht
  · exact h.pt k u (by omega) hu
theorem Fi.fresh {j : Nat} {t : Sq} (h : Fi L room carts W left n later seen layer j) (hj : later[j]? = some t) (hr : Reach L room carts (n + 1) t) : Fi L room carts W left n later (seen ++ [t]) (layer ++ [t]) (j + 1) := by
  refine ⟨fun c s hc hr => ?_, fun s hs => ?_, fun s hs => ?_, mem_snoc h.f, fun k u hk hu => ?_⟩
  · obtain ⟨z1, z2⟩ := h.old c s hc hr
    exact ⟨mem_snoc z1, z2.mono (fun _ y => mem_snoc y) fun _ y => y⟩
  · rcases List.mem_append.mp hs with z | z
    · exact (h.cl s z).imp (fun y => mem_snoc y) fun y => y.mono (fun _ y => mem_snoc y) fun _ y => y
    · rw [List.mem_singleton.mp z]
      exact .inl last_snoc
  · rcases List.mem_append.mp hs with z | z
    · exact h.rc s z
    · rw [List.mem_singleton.mp z]
      exact hr
  · by_cases e : k = j
    · subst e
      rw [hj] at hu
      have hu := Option.some.inj hu
      subst hu
      exact last_snoc
    · exact mem_snoc (h.pt k u (by omega) hu)
theorem Fi.out (h : Fi L room carts W left n later seen layer later.length) : Out L room carts W left (n + 1) seen layer := by
  have key : ∀ s, Thru L room carts W left seen later s → Thru L room carts W left seen [] s := fun s z => ⟨z.1, fun m t hm => by
    rcases z.2 m t hm with y | ⟨_, y⟩
    · exact .inl y
    · obtain ⟨k, hk⟩ := List.mem_iff_getElem?.mp y
      exact .inl (h.pt k t (List.getElem?_eq_some_iff.mp hk).1 hk)⟩
  exact ⟨fun c s hc hr => ⟨(h.old c s hc hr).1, key s (h.old c s hc hr).2⟩, fun s hs => (h.cl s hs).imp id (key s), h.rc, h.f⟩
end
section
variable {c : Case} {carts n : Nat} {seen layer later : List Sq}
/-- found: it is the least -/
theorem wh_found {i : Nat} {x : Sq} (wf : WfL c.L) (hn : c.L.length < 30) (h2 : 2 ≤ c.room) (hN : 1 ≤ carts) (hl : c.left ≤ carts) (hW : c.W.length = c.L.length + 1) (h0 : c.W.getD 0 none = none)
    (h : Wh c.L c.room carts c.W c.left n seen layer later i) (hx : layer[i]? = some x) (hg : goodF c.W c.left x = true) : least c = some ((n : Nat) : Int) := by
  obtain ⟨v, e, hv⟩ := found_least wf h2 hW h0 (h.rc x (List.mem_of_getElem? hx)) hg
  obtain ⟨k, s, hr, hs, rfl⟩ := least_found wf hn h2 hN hl hW h0 e
  by_cases hk : k < n
  · have := (h.old k s hk hr).2.1
    rw [hs] at this
    cases this
  · rw [e]
    congr 1
    omega
/-- not found: it is more -/
theorem out_none (wf : WfL c.L) (hn : c.L.length < 30) (h2 : 2 ≤ c.room) (hN : 1 ≤ carts) (hl : c.left ≤ carts) (hW : c.W.length = c.L.length + 1) (h0 : c.W.getD 0 none = none)
    (h : Out c.L c.room carts c.W c.left n seen layer) {v : Int} (e : least c = some v) : (n : Int) ≤ v := by
  obtain ⟨k, s, hr, hs, rfl⟩ := least_found wf hn h2 hN hl hW h0 e
  by_cases hk : k < n
  · have := (h.old k s hk hr).2.1
    rw [hs] at this
    cases this
  · omega
end
/-- how many moves there are -/
theorem kids_le (L : List Nat) (p : Nat) : (kids L p).length ≤ L.length := by
  unfold kids
  rw [List.length_map]
  exact Nat.le_trans (List.length_filter_le _ _) (by rw [List.length_range]; exact Nat.le_refl _)
theorem near_le (L : List Nat) (p : Nat) : (near L p).length ≤ L.length + 1 := by
  have := kids_le L p
  unfold near
  rw [List.length_append]
  split
  · simp; omega
  · simp; omega
theorem cartM_le (L : List Nat) (room : Nat) (s : Sq) (c : Nat) : (cartM L room s c).length ≤ L.length + 3 := by
  have h := near_le L (s.sp.getD c 0)
  unfold cartM downs ups
  rw [List.length_append]
  have h1 : (if 0 < s.ld.getD c 0 then (near L (s.sp.getD c 0)).map (goM s c) ++ (if 0 < s.sp.getD c 0 then [layM s c] else []) else []).length ≤ L.length + 2 := by
    split
    · rw [List.length_append, List.length_map]
      split
      · rw [List.length_singleton]; omega
      · rw [List.length_nil]; omega
    · rw [List.length_nil]; omega
  have h2 : (if s.ld.getD c 0 < room then (if s.sp.getD c 0 = 0 then [tak0M s c] else if 0 < s.st.getD (s.sp.getD c 0) 0 then [takM s c] else []) else []).length ≤ 1 := by
    split
    · split
      · simp
      · split <;> simp
    · simp
  omega
theorem flat_le {α : Type} (f : Nat → List α) (k : Nat) (h : ∀ c, (f c).length ≤ k) : ∀ n : Nat, ((List.range n).flatMap f).length ≤ n * k
  | 0 => by simp
  | n + 1 => by
    rw [List.range_succ, List.flatMap_append, List.length_append, Nat.succ_mul]
    have h1 := flat_le f k h n
    have h2 := h n
    simp only [List.flatMap_cons, List.flatMap_nil, List.append_nil]
    omega
theorem moves_le (L : List Nat) (room carts : Nat) (s : Sq) : (movesF L room carts s).length ≤ carts * (L.length + 3) := flat_le _ _ (cartM_le L room s) carts
theorem moves_kind {L : List Nat} {room carts : Nat} {s : Sq} {m : Nat} {t : Sq} (h : (m, t) ∈ movesF L room carts s) : m = 0 ∨ m = 1 := by
  unfold movesF at h
  obtain ⟨c, _, h⟩ := List.mem_flatMap.mp h
  unfold cartM at h
  rcases List.mem_append.mp h with h | h
  · left
    unfold downs at h
    split at h
    · rcases List.mem_append.mp h with h | h
      · obtain ⟨x, _, e⟩ := List.mem_map.mp h
        exact (congrArg Prod.fst e).symm
      · split at h
        · exact congrArg Prod.fst (List.mem_singleton.mp h)
        · cases h
    · cases h
  · unfold ups at h
    split at h
    · split at h
      · exact .inr (congrArg Prod.fst (List.mem_singleton.mp h))
      · split at h
        · exact .inl (congrArg Prod.fst (List.mem_singleton.mp h))
        · cases h
    · cases h
end Oat
namespace Oa
open PySem PySem.Spec PyProof.Rows L2 Oat
section
variable {P : Program} {w : World} {K : PySem.W.Frag} {mg : Str → Option Value} {base : Heap}
/-! ### standings of the search as they lie -/
abbrev nV (l : List Nat) : List V := l.map fun (k : Nat) => V.int (k : Int)
abbrev bV (l : List Bool) : List V := l.map V.bl
theorem nV_at {l : List Nat} {i : Nat} (h : i < l.length) : (nV l)[i]? = some (.int ((l.getD i 0 : Nat) : Int)) := by
  rw [List.getElem?_map, List.getD_eq_getElem?_getD, List.getElem?_eq_getElem h]
  rfl
theorem nV_atI {l : List Nat} {i : Nat} (h : i < l.length) : atI (nV l) ((i : Nat) : Int) = some (.int ((l.getD i 0 : Nat) : Int)) := atI_nat (nV_at h)
theorem bV_at {l : List Bool} {i : Nat} (h : i < l.length) : (bV l)[i]? = some (.bl (l.getD i false)) := by
  rw [List.getElem?_map, List.getD_eq_getElem?_getD, List.getElem?_eq_getElem h]
  rfl
theorem nV_set (l : List Nat) (i k : Nat) : (nV l).set i (.int ((k : Nat) : Int)) = nV (l.set i k) := by
  unfold nV
  rw [List.map_set]
theorem bV_set (l : List Bool) (i : Nat) (b : Bool) : (bV l).set i (.bl b) = bV (l.set i b) := by
  unfold bV
  rw [List.map_set]
structure SqA (K : PySem.W.Frag) (H : Hp) (p a1 a2 a3 a4 : Addr) (s : Sq) : Prop where
  p : SqT K H p [.ref a1, .ref a2, .ref a3, .ref a4]
  sp : SqT K H a1 (nV s.sp)
  ld : SqT K H a2 (nV s.ld)
  st : SqT K H a3 (nV s.st)
  cl : SqT K H a4 (bV s.cl)
theorem SqA.tx {H H' : Hp} {p a1 a2 a3 a4 : Addr} {s : Sq} (h : SqA K H p a1 a2 a3 a4 s) (x : TExt H H') : SqA K H' p a1 a2 a3 a4 s := ⟨x.t h.p, x.t h.sp, x.t h.ld, x.t h.st, x.t h.cl⟩
def SqAt (K : PySem.W.Frag) (H : Hp) (p : Addr) (s : Sq) : Prop := ∃ a1 a2 a3 a4, SqA K H p a1 a2 a3 a4 s
theorem SqAt.tx {H H' : Hp} {p : Addr} {s : Sq} (h : SqAt K H p s) (x : TExt H H') : SqAt K H' p s := by
  obtain ⟨a1, a2, a3, a4, h⟩ := h
  exact ⟨a1, a2, a3, a4, h.tx x⟩
def MvAt (K : PySem.W.Frag) (H : Hp) (q : Addr) (x : Nat × Sq) : Prop := ∃ p, SqT K H q [.int ((x.1 : Nat) : Int), .ref p] ∧ SqAt K H p x.2
theorem MvAt.tx {H H' : Hp} {q : Addr} {m : Nat × Sq} (h : MvAt K H q m) (x : TExt H H') : MvAt K H' q m := by
  obtain ⟨p, h1, h2⟩ := h
  exact ⟨p, x.t h1, h2.tx x⟩
structure SqOk (L : List Nat) (carts : Nat) (s : Sq) : Prop where
  l1 : s.sp.length = carts
  l2 : s.ld.length = carts
  l3 : s.st.length = L.length + 1
  l4 : s.cl.length = L.length + 1
  sp : ∀ c, s.sp.getD c 0 ≤ L.length
theorem reach_ok {L : List Nat} {room carts n : Nat} {s : Sq} (wf : WfL L) (h : Reach L room carts n s) : SqOk L carts s := by
  obtain ⟨ds, S, _, ok, A, _, _⟩ := reach_plan wf h
  exact ⟨by rw [← A.sp]; exact ok.l1, by rw [← A.ld]; exact ok.l2, by rw [← A.st]; exact ok.l3, A.len, fun c => by rw [← A.sp]; have := ok.sp c; omega⟩
/-! ### xs[:i] + (v,) + xs[i + 1:] -/
theorem tup_set {te : TE} {σ : L2.St} {H : Hp} {Q : VK} {j i k : Nat} {a : Addr} {xs : List V} {v : V} (hσ : σ[j]? = some (some (.ref a))) (hi : σ[i]? = some (some (.int ((k : Nat) : Int)))) (h : SqT K H a xs) (hk : k < xs.length) (hl : xs.length ≤ 90)
    (he : ∀ H1 (Q' : VK), Same H H1 → Q' v H1 → te σ H1 Q') (q : ∀ p H', Same H H' → SqT K H' p (xs.set k v) → Q (.ref p) H') :
    tOp (rCatA K) (tOp (rCatA K) (tSl (rSlA K) (tVar j) tNoPart (tPart (tVar i))) (tTup (tCons te tNil))) (tSl (rSlA K) (tVar j) (tPart (tOp (rI0 fun i j => .int (i + j)) (tVar i) (tC (.int 1)))) tNoPart) σ H Q := by
  refine ⟨_, hσ, _, hi, _, rfl, slA_any h fun p1 H1 s1 h1 => ?_⟩
  rw [cutV_pre k (by omega)] at h1
  refine he H1 _ s1 ⟨by show 1 ≤ sizeLine; decide, fun p2 n2 => ?_⟩
  have s2 := same_new (o := .tup [v]) n2
  refine catA_any (same_t s2 h1) (sqt upd_same) (Nat.le_trans (show (xs.take k).length + 1 ≤ 100 by rw [List.length_take]; omega) (by decide)) fun p3 H3 s3 h3 => ?_
  have s13 := s1.trans (s2.trans s3)
  refine ⟨_, hσ, _, hi, _, _, rfl, rfl, _, rfl, ?_⟩
  dsimp only [tNoPart]
  rw [show ((k : Nat) : Int) + 1 = ((k + 1 : Nat) : Int) by omega]
  refine slA_any (same_t s13 h) fun p4 H4 s4 h4 => ?_
  rw [cutV_post (k + 1) (by omega)] at h4
  refine catA_any (same_t s4 h3) h4 (Nat.le_trans (show (xs.take k ++ [v]).length + (xs.drop (k + 1)).length ≤ 200 by rw [List.length_append, List.length_take, List.length_drop, List.length_singleton]; omega) (by decide)) fun p5 H5 s5 h5 => ?_
  rw [take_set_drop hk] at h5
  exact q p5 H5 (s13.trans (s4.trans s5)) h5
/-! ### found.append((m, (.., .., .., ..))) -/
theorem app_move {t1 t2 t3 t4 : TE} {σ : L2.St} {D : Ends} {H0 H : Hp} {l : Addr} {qs : List Addr} {ms : List (Nat × Sq)} {m : Nat} {t : Sq} (hσ : σ[7]? = some (some (.ref l))) (hl : H l = some (.lst (qs.map V.ref))) (hz : qs.length < 1000) (nl : H0 l = none) (sH : Same H0 H) (hp : Paired (MvAt K H) qs ms)
    (ev : ∀ Q' : V → V → V → V → Hp → Prop, (∀ b1 b2 b3 b4 H1, Same H H1 → SqT K H1 b1 (nV t.sp) → SqT K H1 b2 (nV t.ld) → SqT K H1 b3 (nV t.st) → SqT K H1 b4 (bV t.cl) → Q' (.ref b1) (.ref b2) (.ref b3) (.ref b4) H1) → t1 σ H fun v1 H1 => t2 σ H1 fun v2 H2 => t3 σ H2 fun v3 H3 => t4 σ H3 fun v4 H4 => Q' v1 v2 v3 v4 H4)
    (q : ∀ q2 H', SameBut l H H' → Same H0 H' → H' l = some (.lst ((qs ++ [q2]).map V.ref)) → Paired (MvAt K H') (qs ++ [q2]) (ms ++ [(m, t)]) → D.nx σ H') :
    tDrop (tBM K "list" rAppend (tVar 7) (tCons (tTup (tCons (tC (.int ((m : Nat) : Int))) (tCons (tTup (tCons t1 (tCons t2 (tCons t3 (tCons t4 tNil))))) tNil))) tNil)) D σ H := by
  refine ⟨_, hσ, .inl ⟨rfl, _, sql hl⟩, ?_⟩
  refine ev _ fun b1 b2 b3 b4 H1 s1 h1 h2 h3 h4 => ⟨by show 4 ≤ sizeLine; decide, fun p np => ?_⟩
  have s2 := same_new (o := .tup [V.ref b1, .ref b2, .ref b3, .ref b4]) np
  refine ⟨by show 2 ≤ sizeLine; decide, fun q2 nq => ?_⟩
  have s3 := same_new (o := .tup [V.int ((m : Nat) : Int), .ref p]) nq
  have hq : (upd (upd H1 p (.tup [V.ref b1, .ref b2, .ref b3, .ref b4])) q2 (.tup [V.int ((m : Nat) : Int), .ref p])) q2 = some (.tup [V.int ((m : Nat) : Int), .ref p]) := upd_same
  have hpp := s3 _ _ (upd_same (H := H1) (a := p) (o := .tup [V.ref b1, .ref b2, .ref b3, .ref b4]))
  have s23 := s2.trans s3
  have s13 := s1.trans s23
  generalize (upd (upd H1 p (.tup [V.ref b1, .ref b2, .ref b3, .ref b4])) q2 (.tup [V.int ((m : Nat) : Int), .ref p])) = H3 at s23 s13 hq hpp
  have hl3 := s13 _ _ hl
  refine ⟨l, _, .ref q2, rfl, rfl, hl3, Nat.lt_of_lt_of_le (show (qs.map V.ref).length < 1000 by rw [List.length_map]; exact hz) (by decide), ?_⟩
  have x : TExt H3 (upd H3 l (.lst (qs.map V.ref ++ [V.ref q2]))) := tx_upd (by rw [hl3]; exact trivial)
  refine q q2 _ (fun y o hy e => by rw [upd_ne hy]; exact s13 y o e) (same_mut (sH.trans s13) nl) (by rw [upd_same, List.map_append]; rfl) (paired_snoc (paired_imp hp fun _ _ z => (z.tx (same_tx s13)).tx x) ?_)
  exact MvAt.tx ⟨p, sqt hq, b1, b2, b3, b4, ⟨sqt hpp, same_t s23 h1, same_t s23 h2, same_t s23 h3, same_t s23 h4⟩⟩ x
theorem filter_ix (b : Nat → Bool) : ∀ l : List Nat, ((List.range l.length).filter fun i => b (l.getD i 0)).map (fun i => l.getD i 0) = l.filter b
  | [] => rfl
  | x :: l => by
    rw [List.length_cons, List.range_succ_eq_map, List.filter_cons, List.filter_map, List.filter_cons]
    have ih := filter_ix b l
    have e : ((List.range l.length).filter ((fun i => b ((x :: l).getD i 0)) ∘ Nat.succ)).map Nat.succ = ((List.range l.length).filter fun i => b (l.getD i 0)).map Nat.succ := by
      congr 1
    rw [List.getD_cons_zero]
    cases b x with
    | true =>
      rw [if_pos rfl, if_pos rfl, List.map_cons, List.getD_cons_zero, e, List.map_map, ← ih]
      rfl
    | false =>
      rw [if_neg (by decide), if_neg (by decide), e, List.map_map, ← ih]
      rfl
/-! ### _law_good -/
def sp_law_good (K : PySem.W.Frag) : Sp := fun vs H Q _ => ∃ a L d W left p s carts, vs = [.ref a, .ref d, .int ((left : Nat) : Int), .ref p] ∧ SqT K H a (landV L) ∧ L.length < 30 ∧ SqT K H d (wantsV W) ∧ W.length = L.length + 1 ∧ SqAt K H p s ∧ SqOk L carts s ∧ carts ≤ 6 ∧ ∀ H', Same H H' → Q (.bl (goodF W left s)) H'
theorem c__law_good (T : Txt K mg) : Cal P w K mg base CX0 1 "_law_good" ["land_here", "wants_here", "most_left", "state"] (sp_law_good K) := by
  refine cal0 T.d__law_good sc__law_good (fun _ _ _ _ _ _ us hl => match us, hl with | [_, _, _, _], _ => rfl) (fun vs H Q E h => ?_) (fun f cdv A outer s H vs Q E hr h => ?_)
  · obtain ⟨a, L, d, W, left, p, s, carts, rfl, _⟩ := h
    rfl
  · obtain ⟨a, L, d, W, left, p, s, carts, rfl, hA, hn, hD, hW, ⟨a1, a2, a3, a4, hS⟩, hok, h6, q⟩ := h
    refine ⟨_, (pss_cons (ps_if (pt_cmpR op_gt (pe_callB (lenS K) rfl T.b_len PySem.boot_len (pa_cons (pe_lc (own := [("one", 5)]) (g := gName 5) rfl sc__law_good.nd (piT K (pe_ix (ixT K) (pv 3) pe_int (fun _ _ => rfl))) (blkOk_by (own := [("one", 5)]) (N := ["land_here", "wants_here", "most_left", "state", "k", "one"]) (sc := (defScope s__law_good)) (by decide +kernel)) (fun _ _ _ _ _ => pg_name (i := 5) sc__law_good.nd rfl (Or.inl rfl)) (fun _ _ _ _ _ => pts_one (pt_cmpR op_ne (pv 5) pe_int (nomark _))) (fun _ _ _ _ _ => (pv 5))) pa_nil)) (pv 2) (nomark _)) (pss_one (ps_ret pe_bl)) pss_nil)
      (pss_cons (ps_for PassesOwn.never rfl (pi_range2 rfl T.b_range (pa_cons pe_int (pa_cons (pe_callB (lenS K) rfl T.b_len PySem.boot_len (pa_cons (pv 0) pa_nil)) pa_nil))) (pg_name (i := 4) sc__law_good.nd rfl (Or.inl rfl)) (pss_one (ps_if (PW.pt (pw_and (pt_cmpR op_notN (pe_ix (ixT K) (pv 1) (pv 4) (fun _ _ => rfl)) pe_non (nomark _)) (pw_and1 (PW.pt (pw_or (pt_not (pt_val (pe_ix (ixT K) (pe_ix (ixT K) (pv 3) pe_int (fun _ _ => rfl)) (pv 4) (fun _ _ => rfl)))) (pw_or1 (pt_cmpR op_lt (pe_ix (ixT K) (pe_ix (ixT K) (pv 3) pe_int (fun _ _ => rfl)) (pv 4) (fun _ _ => rfl)) (pe_ix (ixT K) (pv 1) (pv 4) (fun _ _ => rfl)) (nomark _)))))))) (pss_one (ps_ret pe_bl)) pss_nil)))
      (pss_one (ps_ret pe_bl)))), ?_⟩
    have el : (landV L).length = L.length + 1 := landV_len L
    -- the carts away
    refine ⟨_, rfl, p, _, 0, .ref a1, rfl, rfl, hS.p, atI_nat (j := 0) rfl, a1, rfl, ⟨_, hS.sp⟩, fun Y nY => ?_⟩
    refine lc_rel (walk_tup (xs := nV s.sp)) nY (by rw [List.length_map, hok.l1]; omega) (fun H' s' => same_t s' hS.sp) (fun i => decide (s.sp.getD i 0 ≠ 0)) (fun i v _ => True) (fun _ _ _ _ _ _ _ h => h) (fun i x H2 H3 l' hi s2 hy y => ?_) (fun ys H2 s2 hy2 hp2 => ?_)
    · obtain ⟨rfl, hx⟩ := y
      rw [List.getElem?_map] at hx
      obtain ⟨k, hk, rfl⟩ := Option.map_eq_some_iff.mp hx
      have hgk : s.sp.getD i 0 = k := by rw [List.getD_eq_getElem?_getD, hk]; rfl
      rw [hgk]
      refine ⟨Same.refl _, rfl, fun Q2 q2 => ?_, fun _ H4 s4 Q2 q2 => ⟨_, rfl, q2 _ H4 (Same.refl _) trivial⟩⟩
      refine ⟨_, rfl, rfl, _, ?_, q2 _ (Same.refl _)⟩
      show V.bl (!decide (V.int ((k : Nat) : Int) = V.int 0)) = _
      rw [decI]
      by_cases h0 : k = 0
      · rw [decide_eq_true h0, decide_eq_false (by omega)]; rfl
      · rw [decide_eq_false h0, decide_eq_true h0]; rfl
    have e1 : ys.length = (s.sp.filter fun p => decide (p ≠ 0)).length := by
      have h1 := Paired.length hp2
      have h2 := congrArg List.length (filter_ix (fun p => decide (p ≠ 0)) s.sp)
      rw [List.length_map] at h2
      rw [show (nV s.sp).length = s.sp.length by unfold nV; rw [List.length_map]] at h1
      omega
    refine ⟨Y, _, rfl, .inl (sql hy2), _, rfl, _, _, rfl, rfl, _, rfl, ?_⟩
    rw [e1]
    by_cases haw : (s.sp.filter fun p => decide (p ≠ 0)).length ≤ left
    case neg =>
      refine ite2 (fun _ => ?_) (fun z => absurd (decide_eq_true (by omega)) z)
      have : goodF W left s = false := by
        unfold goodF
        rw [decide_eq_false haw]
        rfl
      rw [this] at q
      exact q _ s2
    refine ite2 (fun z => absurd (of_decide_eq_true z) (by omega)) (fun _ => ?_)
    have hg : goodF W left s = (List.range (W.length - 1)).all (wantB W s) := by
      unfold goodF
      rw [decide_eq_true haw, Bool.true_and]
    refine ⟨_, rfl, a, _, rfl, .inr (same_t s2 hA), _, _, rfl, ⟨by decide, by decide, by rw [el]; omega, by rw [el]; omega⟩, ?_⟩
    rw [el, show (((L.length + 1 : Nat) : Int) - 1).toNat = L.length by omega]
    refine for_it walk_range (fun i σ H' => ∃ y4, σ = [some (.ref a), some (.ref d), some (.int ((left : Nat) : Int)), some (.ref p), y4, none] ∧ H' = H2 ∧ ∀ j, j < i → wantB W s j = true)
      ⟨none, rfl, rfl, fun j hj => absurd hj (Nat.not_lt_zero j)⟩ (fun _ _ _ _ _ => trivial) (fun i x σ H3 H4 hi pp y => ?_) (fun σ H3 pp => ?_)
    · obtain ⟨y4, rfl, rfl, hj⟩ := pp
      obtain ⟨rfl, rfl⟩ := y
      dsimp only
      rw [show (1 : Int) + (i : Int) = ((i + 1 : Nat) : Int) by omega]
      have hd2 := same_t s2 hD
      have hw := wants_at (W := W) (p := i + 1) (by omega)
      have hS2 := hS.tx (same_tx s2)
      show tIfS _ _ _ _ [some (.ref a), some (.ref d), some (.int ((left : Nat) : Int)), some (.ref p), some (.int ((i + 1 : Nat) : Int)), none] _
      refine ⟨_, rfl, _, rfl, d, _, _, _, rfl, rfl, hd2, atI_nat hw, rfl, _, rfl, ?_⟩
      cases e : W.getD (i + 1) none with
      | none =>
        refine iteF (iteF ⟨_, rfl, rfl, fun j hj' => ?_⟩)
        by_cases hji : j = i
        · unfold wantB
          rw [hji, e]
        · exact hj j (by omega)
      | some u =>
        refine iteT ?_
        have hfalse : (s.cl.getD (i + 1) false && decide (u ≤ s.st.getD (i + 1) 0)) = false → Q (.bl false) _ := fun z => by
          have : goodF W left s = false := by
            rw [hg]
            refine Bool.eq_false_iff.mpr fun y => ?_
            have := List.all_eq_true.mp y i (List.mem_range.mpr (by omega))
            unfold wantB at this
            rw [e] at this
            dsimp only at this
            rw [z] at this
            cases this
          rw [this] at q
          exact q _ s2
        refine ⟨_, rfl, p, _, 3, .ref a4, rfl, rfl, hS2.p, atI_nat (j := 3) rfl, _, rfl, a4, _, _, _, rfl, rfl, hS2.cl, atI_nat (bV_at (by rw [hok.l4]; omega)), _, rfl, ?_⟩
        cases hc : s.cl.getD (i + 1) false with
        | false =>
          refine iteT (iteT ?_)
          exact hfalse (by rw [hc]; rfl)
        | true =>
          refine iteF ?_
          refine ⟨_, rfl, p, _, 2, .ref a3, rfl, rfl, hS2.p, atI_nat (j := 2) rfl, _, rfl, a3, _, _, _, rfl, rfl, hS2.st, nV_atI (by rw [hok.l3]; omega), _, rfl, _, rfl, d, _, _, _, rfl, rfl, hd2, atI_nat hw, ?_⟩
          rw [e]
          refine ⟨_, _, rfl, rfl, _, rfl, ?_⟩
          by_cases hu : u ≤ s.st.getD (i + 1) 0
          · refine ite2 (fun z => absurd (of_decide_eq_true z) (by omega)) (fun _ => ⟨_, rfl, rfl, fun j hj' => ?_⟩)
            by_cases hji : j = i
            · unfold wantB
              rw [hji, e]
              dsimp only
              rw [hc, decide_eq_true hu]
              rfl
            · exact hj j (by omega)
          · refine ite2 (fun z => ?_) (fun z => absurd (decide_eq_true (by omega)) z)
            exact hfalse (by rw [decide_eq_false hu, Bool.and_false])
    · obtain ⟨y4, rfl, rfl, hj⟩ := pp
      have : goodF W left s = true := by
        rw [hg, hW]
        exact List.all_eq_true.mpr fun i hi => hj i (by have := List.mem_range.mp hi; omega)
      rw [this] at q
      exact q _ s2
end
end Oa
namespace Oa
open PySem PySem.Spec PyProof.Rows L2 Oat
section
variable {P : Program} {w : World} {K : PySem.W.Frag} {mg : Str → Option Value} {base : Heap}
theorem if_both {t : TT} {tu tw tr : TS} {D : Ends} {σ : L2.St} {H : Hp} (Pr : Bool → Hp → Prop) (M : L2.St → Hp → Prop) (h : ∀ Q : Bool → Hp → Prop, (∀ b H', Pr b H' → Q b H') → t σ H Q) (hf : ∀ σ' H', M σ' H' → tr D σ' H')
    (h1 : ∀ H' D', Pr true H' → (∀ σ' H', M σ' H' → Ends.nx D' σ' H') → tu D' σ H') (h2 : ∀ H' D', Pr false H' → (∀ σ' H', M σ' H' → Ends.nx D' σ' H') → tw D' σ H') : tSeq (tIfS t tu tw) tr D σ H :=
  h _ fun b H' hb => by
    cases b with
    | true => exact h1 H' { D with nx := tr D } hb hf
    | false => exact h2 H' { D with nx := tr D } hb hf
theorem if_end {t : TT} {tu tw : TS} {D : Ends} {σ : L2.St} {H : Hp} (Pr : Bool → Hp → Prop) (h : ∀ Q : Bool → Hp → Prop, (∀ b H', Pr b H' → Q b H') → t σ H Q)
    (h1 : ∀ H', Pr true H' → tu D σ H') (h2 : ∀ H', Pr false H' → tw D σ H') : tIfS t tu tw D σ H :=
  h _ fun b H' hb => by
    cases b with
    | true => exact h1 H' hb
    | false => exact h2 H' hb
/-! ### _law_moves -/
abbrev mvS (a b p a1 a2 a3 a4 l : Addr) (y8 y9 y10 y11 y12 y13 y14 : Option V) : L2.St := [some (.ref a), some (.ref b), some (.ref p), some (.ref a1), some (.ref a2), some (.ref a3), some (.ref a4), some (.ref l), y8, y9, y10, y11, y12, y13, y14]
/-- the moves found so far -/
def FdAt (K : PySem.W.Frag) (H0 H : Hp) (l : Addr) (ms : List (Nat × Sq)) : Prop := Same H0 H ∧ ∃ qs : List Addr, H l = some (.lst (qs.map V.ref)) ∧ Paired (MvAt K H) qs ms
theorem FdAt.same {H0 H H' : Hp} {l : Addr} {ms : List (Nat × Sq)} (h : FdAt K H0 H l ms) (s : Same H H') : FdAt K H0 H' l ms := by
  obtain ⟨s0, qs, h1, h2⟩ := h
  exact ⟨s0.trans s, qs, s _ _ h1, paired_imp h2 fun _ _ z => z.tx (same_tx s)⟩
theorem app_mv {t1 t2 t3 t4 : TE} {σ : L2.St} {D : Ends} {H0 H : Hp} {l : Addr} {ms : List (Nat × Sq)} {m : Nat} {t : Sq} (hσ : σ[7]? = some (some (.ref l))) (hf : FdAt K H0 H l ms) (hz : ms.length < 1000) (nl : H0 l = none)
    (ev : ∀ Q' : V → V → V → V → Hp → Prop, (∀ b1 b2 b3 b4 H1, Same H H1 → SqT K H1 b1 (nV t.sp) → SqT K H1 b2 (nV t.ld) → SqT K H1 b3 (nV t.st) → SqT K H1 b4 (bV t.cl) → Q' (.ref b1) (.ref b2) (.ref b3) (.ref b4) H1) → t1 σ H fun v1 H1 => t2 σ H1 fun v2 H2 => t3 σ H2 fun v3 H3 => t4 σ H3 fun v4 H4 => Q' v1 v2 v3 v4 H4)
    (q : ∀ H', SameBut l H H' → FdAt K H0 H' l (ms ++ [(m, t)]) → D.nx σ H') :
    tDrop (tBM K "list" rAppend (tVar 7) (tCons (tTup (tCons (tC (.int ((m : Nat) : Int))) (tCons (tTup (tCons t1 (tCons t2 (tCons t3 (tCons t4 tNil))))) tNil))) tNil)) D σ H := by
  obtain ⟨s0, qs, h1, h2⟩ := hf
  exact app_move hσ h1 (by rw [Paired.length h2]; exact hz) nl s0 h2 ev fun q2 H' sb s' h3 h4 => q H' sb ⟨s', _, h3, h4⟩
def sp_law_moves (K : PySem.W.Frag) : Sp := fun vs H Q _ => ∃ a L b carts room p s, vs = [.ref a, .ref b, .ref p] ∧ SqT K H a (landV L) ∧ WfL L ∧ L.length < 30 ∧ SqT K H b (worksV carts room) ∧ carts ≤ 6 ∧ SqAt K H p s ∧ SqOk L carts s ∧
  ∀ l H', H l = none → FdAt K H H' l (movesF L room carts s) → Q (.ref l) H'
theorem range_flat {α : Type} (f : Nat → List α) (n : Nat) : (List.range (n + 1)).flatMap f = (List.range n).flatMap f ++ f n := by
  rw [List.range_succ, List.flatMap_append]
  simp
theorem c__law_moves (T : Txt K mg) : Cal P w K mg base CX0 2 "_law_moves" ["land_here", "works_here", "state"] (sp_law_moves K) := by
  refine cal0 T.d__law_moves sc__law_moves (fun _ _ _ _ _ _ us hl => match us, hl with | [_, _, _], _ => rfl) (fun vs H Q E h => ?_) (fun f cdv A outer s H vs Q E hr h => ?_)
  · obtain ⟨a, L, b, carts, room, p, s, rfl, _⟩ := h
    rfl
  · obtain ⟨a, L, b, carts, room, p, s, rfl, hA, wf, hn, hB, h6, ⟨a1, a2, a3, a4, hS⟩, hok, q⟩ := h
    refine ⟨_, (pss_cons (ps_asg (pv 2) (pg_tup rfl (pgs_cons (pg_name (i := 3) sc__law_moves.nd rfl (Or.inl rfl)) (pgs_cons (pg_name (i := 4) sc__law_moves.nd rfl (Or.inl rfl)) (pgs_cons (pg_name (i := 5) sc__law_moves.nd rfl (Or.inl rfl)) (pgs_cons (pg_name (i := 6) sc__law_moves.nd rfl (Or.inl rfl)) pgs_nil))))))
      (pss_cons (ps_set (i := 7) sc__law_moves.nd rfl (Or.inl rfl) (pe_lst pa_nil))
      (pss_cons (ps_for PassesOwn.never rfl (pi_range1 rfl T.b_range (pa_cons (pe_ix (ixT K) (pv 1) pe_int (fun _ _ => rfl)) pa_nil)) (pg_name (i := 8) sc__law_moves.nd rfl (Or.inl rfl)) (pss_cons (ps_set (i := 9) sc__law_moves.nd rfl (Or.inl rfl) (pe_ix (ixT K) (pv 3) (pv 8) (fun _ _ => rfl)))
      (pss_cons (ps_set (i := 10) sc__law_moves.nd rfl (Or.inl rfl) (pe_op op_cat (pcall (c__law_after T) (hr.mono (by omega)) (pa_cons (pv 0) (pa_cons (pv 9) pa_nil))) (pe_ifExp (pt_cmpR op_gt (pv 9) pe_int (nomark _)) (pe_lst (pa_cons (pe_ix (ixT K) (pv 0) (pv 9) (fun _ _ => rfl)) pa_nil)) (pe_lst pa_nil))))
      (pss_cons (ps_if (pt_cmpR op_gt (pe_ix (ixT K) (pv 4) (pv 8) (fun _ _ => rfl)) pe_int (nomark _)) (pss_cons (ps_for PassesOwn.never rfl (piL K (pv 10)) (pg_name (i := 11) sc__law_moves.nd rfl (Or.inl rfl)) (pss_cons (ps_set (i := 12) sc__law_moves.nd rfl (Or.inl rfl) (pe_op (catA K) (pe_op (catA K) (pe_slice (slA K) (pv 3) po_none (po_some (pv 8))) (pe_tup (pa_cons (pv 11) pa_nil))) (pe_slice (slA K) (pv 3) (po_some (pe_op op_add (pv 8) pe_int)) po_none)))
      (pss_cons (ps_set (i := 13) sc__law_moves.nd rfl (Or.inl rfl) (pe_op (catA K) (pe_op (catA K) (pe_slice (slA K) (pv 4) po_none (po_some (pv 8))) (pe_tup (pa_cons (pe_op op_sub (pe_ix (ixT K) (pv 4) (pv 8) (fun _ _ => rfl)) pe_int) pa_nil))) (pe_slice (slA K) (pv 4) (po_some (pe_op op_add (pv 8) pe_int)) po_none)))
      (pss_cons (ps_set (i := 14) sc__law_moves.nd rfl (Or.inl rfl) (pe_op (catA K) (pe_op (catA K) (pe_slice (slA K) (pv 6) po_none (po_some (pv 11))) (pe_tup (pa_cons pe_bl pa_nil))) (pe_slice (slA K) (pv 6) (po_some (pe_op op_add (pv 11) pe_int)) po_none)))
      (pss_one (ps_expr (pe_bm PySem.F.plainAttrs_list PySem.F.slot_list_append PySem.F.type_list_append mt_append (pv 7) (pa_cons (pe_tup (pa_cons pe_int (pa_cons (pe_tup (pa_cons (pv 12) (pa_cons (pv 13) (pa_cons (pv 5) (pa_cons (pv 14) pa_nil))))) pa_nil))) pa_nil))))))))
      (pss_one (ps_if (pt_cmpR op_gt (pv 9) pe_int (nomark _)) (pss_cons (ps_set (i := 13) sc__law_moves.nd rfl (Or.inl rfl) (pe_op (catA K) (pe_op (catA K) (pe_slice (slA K) (pv 4) po_none (po_some (pv 8))) (pe_tup (pa_cons (pe_op op_sub (pe_ix (ixT K) (pv 4) (pv 8) (fun _ _ => rfl)) pe_int) pa_nil))) (pe_slice (slA K) (pv 4) (po_some (pe_op op_add (pv 8) pe_int)) po_none)))
      (pss_one (ps_expr (pe_bm PySem.F.plainAttrs_list PySem.F.slot_list_append PySem.F.type_list_append mt_append (pv 7) (pa_cons (pe_tup (pa_cons pe_int (pa_cons (pe_tup (pa_cons (pv 3) (pa_cons (pv 13) (pa_cons (pe_op (catA K) (pe_op (catA K) (pe_slice (slA K) (pv 5) po_none (po_some (pv 9))) (pe_tup (pa_cons (pe_op op_add (pe_ix (ixT K) (pv 5) (pv 9) (fun _ _ => rfl)) pe_int) pa_nil))) (pe_slice (slA K) (pv 5) (po_some (pe_op op_add (pv 9) pe_int)) po_none)) (pa_cons (pv 6) pa_nil))))) pa_nil))) pa_nil))))) pss_nil))) pss_nil)
      (pss_one (ps_if (pt_cmpR op_lt (pe_ix (ixT K) (pv 4) (pv 8) (fun _ _ => rfl)) (pe_ix (ixT K) (pv 1) pe_int (fun _ _ => rfl)) (nomark _)) (pss_cons (ps_set (i := 13) sc__law_moves.nd rfl (Or.inl rfl) (pe_op (catA K) (pe_op (catA K) (pe_slice (slA K) (pv 4) po_none (po_some (pv 8))) (pe_tup (pa_cons (pe_op op_add (pe_ix (ixT K) (pv 4) (pv 8) (fun _ _ => rfl)) pe_int) pa_nil))) (pe_slice (slA K) (pv 4) (po_some (pe_op op_add (pv 8) pe_int)) po_none)))
      (pss_one (ps_if (pt_cmpR op_eq (pv 9) pe_int (nomark _)) (pss_one (ps_expr (pe_bm PySem.F.plainAttrs_list PySem.F.slot_list_append PySem.F.type_list_append mt_append (pv 7) (pa_cons (pe_tup (pa_cons pe_int (pa_cons (pe_tup (pa_cons (pv 3) (pa_cons (pv 13) (pa_cons (pv 5) (pa_cons (pv 6) pa_nil))))) pa_nil))) pa_nil)))) (pss_one (ps_if (pt_cmpR op_gt (pe_ix (ixT K) (pv 5) (pv 9) (fun _ _ => rfl)) pe_int (nomark _)) (pss_one (ps_expr (pe_bm PySem.F.plainAttrs_list PySem.F.slot_list_append PySem.F.type_list_append mt_append (pv 7) (pa_cons (pe_tup (pa_cons pe_int (pa_cons (pe_tup (pa_cons (pv 3) (pa_cons (pv 13) (pa_cons (pe_op (catA K) (pe_op (catA K) (pe_slice (slA K) (pv 5) po_none (po_some (pv 9))) (pe_tup (pa_cons (pe_op op_sub (pe_ix (ixT K) (pv 5) (pv 9) (fun _ _ => rfl)) pe_int) pa_nil))) (pe_slice (slA K) (pv 5) (po_some (pe_op op_add (pv 9) pe_int)) po_none)) (pa_cons (pv 6) pa_nil))))) pa_nil))) pa_nil)))) pss_nil))))) pss_nil))))))
      (pss_one (ps_ret (pv 7)))))), ?_⟩
    refine ⟨_, rfl, p, _, rfl, hS.p, rfl, _, _, rfl, _, _, rfl, _, _, rfl, _, _, rfl, rfl, ?_⟩
    refine ⟨Nat.zero_le _, fun l nl => ?_⟩
    have f0 : FdAt K H (upd H l (.lst [])) l [] := ⟨same_new nl, [], upd_same, .nil⟩
    dsimp only [gName]
    show tSeq (tFor _ _ _) _ _ (mvS a b p a1 a2 a3 a4 l none none none none none none none) (upd H l (.lst []))
    generalize upd H l (.lst []) = H1 at f0
    refine ⟨_, rfl, b, _, 0, _, rfl, rfl, same_t f0.1 hB, atI_nat (j := 0) rfl, _, rfl, by omega, by omega, ?_⟩
    rw [show (((carts : Nat) : Int)).toNat = carts by omega]
    refine for_it walk_range (fun i σ H' => ∃ y8 y9 y10 y11 y12 y13 y14, σ = mvS a b p a1 a2 a3 a4 l y8 y9 y10 y11 y12 y13 y14 ∧ FdAt K H H' l ((List.range i).flatMap (cartM L room s)))
      ⟨_, _, _, _, _, _, _, rfl, f0⟩ (fun _ _ _ _ _ => trivial) (fun i x σ H2 H3 hi pp y => ?_) (fun σ H2 pp => ?_)
    case refine_2 =>
      obtain ⟨y8, y9, y10, y11, y12, y13, y14, rfl, f2⟩ := pp
      exact ⟨_, rfl, q l H2 nl f2⟩
    obtain ⟨y8, y9, y10, y11, y12, y13, y14, rfl, f2⟩ := pp
    obtain ⟨rfl, rfl⟩ := y
    have hlm : ((List.range i).flatMap (cartM L room s)).length ≤ i * (L.length + 3) := flat_le _ _ (cartM_le L room s) i
    have hlm2 : i * (L.length + 3) ≤ 6 * 40 := Nat.mul_le_mul (by omega) (by omega)
    have hcd := cartM_le L room s i
    have hnext : (List.range (i + 1)).flatMap (cartM L room s) = (List.range i).flatMap (cartM L room s) ++ downs L s i ++ ups room s i := by
      rw [range_flat, List.append_assoc]
      rfl
    have hcl : (downs L s i).length + (ups room s i).length ≤ L.length + 3 := by
      have : (cartM L room s i).length = (downs L s i).length + (ups room s i).length := by
        unfold cartM
        rw [List.length_append]
      omega
    generalize hpre : (List.range i).flatMap (cartM L room s) = pre at f2 hlm hnext
    clear hpre hcd
    have hps : pre.length + (downs L s i).length ≤ 300 := by omega
    dsimp only
    rw [Int.zero_add]
    have hic : i < carts := hi
    have hal : L.length + 1 ≤ 30 := by omega
    -- here
    have t2 := same_tx f2.1
    have hS2 := hS.tx t2
    refine ⟨_, rfl, _, rfl, a1, _, _, _, rfl, rfl, hS2.sp, nV_atI (by rw [hok.l1]; exact hic), ?_⟩
    have hsp := hok.sp i
    generalize hh : s.sp.getD i 0 = h at hsp
    dsimp only [gName]
    show tSeq (tAsg _ _) _ _ (mvS a b p a1 a2 a3 a4 l (some (.int ((i : Nat) : Int))) (some (.int ((h : Nat) : Int))) y10 y11 y12 y13 y14) H3
    -- near
    refine asg_any (fun v H' => ∃ nr, v = .ref nr ∧ Same H3 H' ∧ H3 nr = none ∧ H' nr = some (.lst (nV (near L h)))) (fun Q' q' => ?_) (fun v H4 p4 => ?_)
    · refine ⟨_, rfl, _, rfl, a, L, h, rfl, t2.t hA, by omega, fun l2 H4 nl2 s4 hl2 => ?_⟩
      have fin : ∀ (e : Addr) (H5 : Hp) (ys : List Nat), Same H4 H5 → H5 e = some (.lst (nV ys)) → near L h = kids L h ++ ys → ys.length ≤ 1 → rCat (.ref l2) (.ref e) H5 Q' := fun e H5 ys s5 he en hy => by
        have hk := kids_le L h
        refine ⟨l2, e, _, _, rfl, rfl, s5 _ _ hl2, he, Nat.le_trans (show ((kids L h).map fun (k : Nat) => V.int (k : Int)).length + (nV ys).length ≤ 100 by rw [List.length_map, List.length_map]; omega) (by decide), fun nr nn => ?_⟩
        have s6 := same_new (o := .lst (((kids L h).map fun (k : Nat) => V.int (k : Int)) ++ nV ys)) nn
        refine q' _ _ ⟨nr, rfl, s4.trans (s5.trans s6), (s4.trans s5).free nn, ?_⟩
        rw [upd_same, en]
        unfold nV
        rw [List.map_append]
      refine ⟨_, rfl, _, _, rfl, rfl, _, rfl, ite2 (fun z => ?_) (fun z => ?_)⟩
      · have z := of_decide_eq_true z
        have h0 : 0 < h := by omega
        have hg : (landV L)[h]? = some (.int ((L.getD (h - 1) 0 : Nat) : Int)) := by
          have := landV_at (L := L) (i := h - 1) (by omega)
          rwa [show h - 1 + 1 = h by omega] at this
        refine ⟨_, rfl, _, rfl, a, _, _, _, rfl, rfl, (t2.trans (same_tx s4)).t hA, atI_nat hg, by show 1 ≤ sizeLine; decide, fun e ne => ?_⟩
        exact fin e _ [L.getD (h - 1) 0] (same_new ne) upd_same (by unfold near; rw [if_pos h0]) (Nat.le_refl _)
      · have h0 : ¬ 0 < h := fun y => z (decide_eq_true (by omega))
        refine ⟨Nat.zero_le _, fun e ne => ?_⟩
        exact fin e _ [] (same_new ne) upd_same (by unfold near; rw [if_neg h0]) (Nat.zero_le _)
    obtain ⟨nr, rfl, s4, nnr, hnr⟩ := p4
    have f4 := f2.same s4
    have hnl : nr ≠ l := fun z => by
      obtain ⟨_, qs, h1, _⟩ := f2
      rw [z, h1] at nnr
      cases nnr
    clear f2 s4 t2 hS2
    dsimp only [gName]
    show tSeq (tIfS _ _ _) _ _ (mvS a b p a1 a2 a3 a4 l (some (.int ((i : Nat) : Int))) (some (.int ((h : Nat) : Int))) (some (.ref nr)) y11 y12 y13 y14) H4
    have hS4 := hS.tx (same_tx f4.1)
    have hld : i < s.ld.length := by rw [hok.l2]; exact hic
    have hspl : i < s.sp.length := by rw [hok.l1]; exact hic
    have hstl : h < s.st.length := by rw [hok.l3]; omega
    have c90 : carts ≤ 90 := by omega
    refine if_both (fun bb H' => H' = H4 ∧ bb = decide (0 < s.ld.getD i 0)) (fun σ' H' => ∃ y11 y12 y13 y14, σ' = mvS a b p a1 a2 a3 a4 l (some (.int ((i : Nat) : Int))) (some (.int ((h : Nat) : Int))) (some (.ref nr)) y11 y12 y13 y14 ∧ FdAt K H H' l (pre ++ downs L s i)) (fun Q' q' => ?_) (fun σ' H' pp => ?_) (fun H' D' pp fin => ?_) (fun H' D' pp fin => ?_)
    · exact ⟨_, rfl, _, rfl, a2, _, _, _, rfl, rfl, hS4.ld, nV_atI hld, _, _, rfl, rfl, _, rfl, q' _ _ ⟨rfl, decide_eq_decide.mpr ⟨fun z => by omega, fun z => by omega⟩⟩⟩
    · -- taking
      obtain ⟨z11, z12, z13, z14, rfl, f5⟩ := pp
      have hS5 := hS.tx (same_tx f5.1)
      have hB5 := same_t f5.1 hB
      refine if_end (fun bb H6 => H6 = H' ∧ bb = decide (s.ld.getD i 0 < room)) (fun Q' q' => ?_) (fun H6 pp => ?_) (fun H6 pp => ?_)
      · exact ⟨_, rfl, _, rfl, a2, _, _, _, rfl, rfl, hS5.ld, nV_atI hld, _, rfl, b, _, 1, _, rfl, rfl, hB5, atI_nat (j := 1) rfl, _, _, rfl, rfl, _, rfl, q' _ _ ⟨rfl, decide_eq_decide.mpr ⟨fun z => by omega, fun z => by omega⟩⟩⟩
      · obtain ⟨rfl, hr0⟩ := pp
        have hr0 := of_decide_eq_true hr0.symm
        refine asg_any (fun v H7 => ∃ r, v = .ref r ∧ Same H6 H7 ∧ SqT K H7 r (nV (s.ld.set i (s.ld.getD i 0 + 1)))) (fun Q' q' => ?_) (fun v H7 pp => ?_)
        · refine tup_set (j := 4) (i := 8) rfl rfl hS5.ld (by rw [List.length_map]; exact hld) (by rw [List.length_map, hok.l2]; exact c90) (fun H1 Q2 s1 q2 => ⟨_, rfl, _, rfl, a2, _, _, _, rfl, rfl, same_t s1 hS5.ld, nV_atI hld, _, _, rfl, rfl, q2⟩) (fun r H7 s7 h7 => ?_)
          dsimp only at h7
          rw [show ((s.ld.getD i 0 : Nat) : Int) + 1 = ((s.ld.getD i 0 + 1 : Nat) : Int) by omega, nV_set] at h7
          exact q' _ _ ⟨r, rfl, s7, h7⟩
        obtain ⟨r, rfl, s7, h7⟩ := pp
        have f7 := f5.same s7
        have hS7 := hS.tx (same_tx f7.1)
        dsimp only [gName]
        show tIfS _ _ _ _ (mvS a b p a1 a2 a3 a4 l (some (.int ((i : Nat) : Int))) (some (.int ((h : Nat) : Int))) (some (.ref nr)) z11 z12 (some (.ref r)) z14) H7
        refine if_end (fun bb H8 => H8 = H7 ∧ bb = decide (h = 0)) (fun Q' q' => ?_) (fun H8 pp => ?_) (fun H8 pp => ?_)
        · exact ⟨_, rfl, rfl, _, rfl, q' _ _ ⟨rfl, decI h⟩⟩
        · obtain ⟨rfl, h0⟩ := pp
          have h0 := of_decide_eq_true h0.symm
          have eu : ups room s i = [tak0M s i] := by
            unfold ups
            rw [if_pos hr0, hh, if_pos h0]
          refine app_mv (m := 1) (t := (tak0M s i).2) rfl f7 (by rw [List.length_append]; omega) nl (fun Q' q' => ⟨_, rfl, _, rfl, _, rfl, _, rfl, q' _ _ _ _ _ (Same.refl _) hS7.sp h7 hS7.st hS7.cl⟩) (fun H9 _ f9 => ?_)
          exact ⟨_, _, _, _, _, _, _, rfl, by rw [hnext, eu]; exact f9⟩
        · obtain ⟨rfl, h0⟩ := pp
          have h0 := of_decide_eq_false h0.symm
          refine if_end (fun bb H9 => H9 = H8 ∧ bb = decide (0 < s.st.getD h 0)) (fun Q' q' => ?_) (fun H9 pp => ?_) (fun H9 pp => ?_)
          · exact ⟨_, rfl, _, rfl, a3, _, _, _, rfl, rfl, hS7.st, nV_atI hstl, _, _, rfl, rfl, _, rfl, q' _ _ ⟨rfl, decide_eq_decide.mpr ⟨fun z => by omega, fun z => by omega⟩⟩⟩
          · obtain ⟨rfl, h1⟩ := pp
            have h1 := of_decide_eq_true h1.symm
            have eu : ups room s i = [takM s i] := by
              unfold ups
              rw [if_pos hr0, hh, if_neg h0, if_pos h1]
            refine app_mv (m := 0) (t := (takM s i).2) rfl f7 (by rw [List.length_append]; omega) nl (fun Q' q' => ?_) (fun HA _ fA => ?_)
            · refine ⟨_, rfl, _, rfl, ?_⟩
              refine tup_set (j := 5) (i := 9) rfl rfl hS7.st (by rw [List.length_map]; exact hstl) (by rw [List.length_map, hok.l3]; omega) (fun H1 Q2 s1 q2 => ⟨_, rfl, _, rfl, a3, _, _, _, rfl, rfl, same_t s1 hS7.st, nV_atI hstl, _, _, rfl, rfl, q2⟩) (fun r3 HA sA hA3 => ?_)
              dsimp only at hA3
              rw [show ((s.st.getD h 0 : Nat) : Int) - 1 = ((s.st.getD h 0 - 1 : Nat) : Int) by omega, nV_set] at hA3
              refine ⟨_, rfl, q' _ _ _ _ _ sA (same_t sA hS7.sp) (same_t sA h7) ?_ (same_t sA hS7.cl)⟩
              show SqT K HA r3 (nV (s.st.set (s.sp.getD i 0) (s.st.getD (s.sp.getD i 0) 0 - 1)))
              rw [hh]
              exact hA3
            · exact ⟨_, _, _, _, _, _, _, rfl, by rw [hnext, eu]; exact fA⟩
          · obtain ⟨rfl, h1⟩ := pp
            have h1 := of_decide_eq_false h1.symm
            have eu : ups room s i = [] := by
              unfold ups
              rw [if_pos hr0, hh, if_neg h0, if_neg h1]
            exact ⟨_, _, _, _, _, _, _, rfl, by rw [hnext, eu, List.append_nil]; exact f7⟩
      · obtain ⟨rfl, hr0⟩ := pp
        have hr0 := of_decide_eq_false hr0.symm
        have eu : ups room s i = [] := by
          unfold ups
          rw [if_neg hr0]
        exact ⟨_, _, _, _, _, _, _, rfl, by rw [hnext, eu, List.append_nil]; exact f5⟩
    · -- going, laying
      obtain ⟨rfl, hl0⟩ := pp
      have hl0 := of_decide_eq_true hl0.symm
      have ed : downs L s i = (near L h).map (goM s i) ++ (if 0 < h then [layM s i] else []) := by
        unfold downs
        rw [if_pos hl0, hh]
      have hnn := near_le L h
      refine ⟨_, rfl, nr, rfl, ⟨_, sql hnr⟩, ?_⟩
      refine for_it (walk_list (xs := nV (near L h))) (fun j σ' H6 => ∃ y11 y12 y13 y14, σ' = mvS a b p a1 a2 a3 a4 l (some (.int ((i : Nat) : Int))) (some (.int ((h : Nat) : Int))) (some (.ref nr)) y11 y12 y13 y14 ∧ FdAt K H H6 l (pre ++ ((near L h).take j).map (goM s i)) ∧ H6 nr = some (.lst (nV (near L h))))
        ⟨_, _, _, _, rfl, by rw [List.take_zero, List.map_nil, List.append_nil]; exact f4, hnr⟩ (fun j σ' H6 _ pp => ?_) (fun j x σ' H6 H7 hj pp y => ?_) (fun σ' H6 pp => ?_)
      · obtain ⟨_, _, _, _, _, _, h2⟩ := pp
        exact sql h2
      · obtain ⟨z11, z12, z13, z14, rfl, f6, hnr6⟩ := pp
        obtain ⟨rfl, hx⟩ := y
        rw [List.getElem?_map] at hx
        obtain ⟨t, ht, rfl⟩ := Option.map_eq_some_iff.mp hx
        have htm := List.mem_of_getElem? ht
        have htl : t < s.cl.length := by
          rw [hok.l4]
          exact near_lt wf (p := h) (by omega) (near_iff.mp htm)
        have hS6 := hS.tx (same_tx f6.1)
        dsimp only [gName]
        show tSeq (tAsg _ _) _ _ (mvS a b p a1 a2 a3 a4 l (some (.int ((i : Nat) : Int))) (some (.int ((h : Nat) : Int))) (some (.ref nr)) (some (.int ((t : Nat) : Int))) z12 z13 z14) H7
        refine asg_any (fun v H8 => ∃ r, v = .ref r ∧ Same H7 H8 ∧ SqT K H8 r (nV (s.sp.set i t))) (fun Q' q' => ?_) (fun v H8 pp => ?_)
        · refine tup_set (j := 3) (i := 8) rfl rfl hS6.sp (by rw [List.length_map]; exact hspl) (by rw [List.length_map, hok.l1]; exact c90) (fun H1 Q2 s1 q2 => ⟨_, rfl, q2⟩) (fun r H8 s8 h8 => ?_)
          rw [nV_set] at h8
          exact q' _ _ ⟨r, rfl, s8, h8⟩
        obtain ⟨r1, rfl, s8, h8⟩ := pp
        dsimp only [gName]
        show tSeq (tAsg _ _) _ _ (mvS a b p a1 a2 a3 a4 l (some (.int ((i : Nat) : Int))) (some (.int ((h : Nat) : Int))) (some (.ref nr)) (some (.int ((t : Nat) : Int))) (some (.ref r1)) z13 z14) H8
        have hS8 := hS6.tx (same_tx s8)
        refine asg_any (fun v H9 => ∃ r, v = .ref r ∧ Same H8 H9 ∧ SqT K H9 r (nV (s.ld.set i (s.ld.getD i 0 - 1)))) (fun Q' q' => ?_) (fun v H9 pp => ?_)
        · refine tup_set (j := 4) (i := 8) rfl rfl hS8.ld (by rw [List.length_map]; exact hld) (by rw [List.length_map, hok.l2]; exact c90) (fun H1 Q2 s1 q2 => ⟨_, rfl, _, rfl, a2, _, _, _, rfl, rfl, same_t s1 hS8.ld, nV_atI hld, _, _, rfl, rfl, q2⟩) (fun r H9 s9 h9 => ?_)
          dsimp only at h9
          rw [show ((s.ld.getD i 0 : Nat) : Int) - 1 = ((s.ld.getD i 0 - 1 : Nat) : Int) by omega, nV_set] at h9
          exact q' _ _ ⟨r, rfl, s9, h9⟩
        obtain ⟨r2, rfl, s9, h9⟩ := pp
        dsimp only [gName]
        show tSeq (tAsg _ _) _ _ (mvS a b p a1 a2 a3 a4 l (some (.int ((i : Nat) : Int))) (some (.int ((h : Nat) : Int))) (some (.ref nr)) (some (.int ((t : Nat) : Int))) (some (.ref r1)) (some (.ref r2)) z14) H9
        have hS9 := hS8.tx (same_tx s9)
        refine asg_any (fun v HA => ∃ r, v = .ref r ∧ Same H9 HA ∧ SqT K HA r (bV (s.cl.set t true))) (fun Q' q' => ?_) (fun v HA pp => ?_)
        · refine tup_set (j := 6) (i := 11) rfl rfl hS9.cl (by rw [List.length_map]; exact htl) (by rw [List.length_map, hok.l4]; omega) (fun H1 Q2 s1 q2 => q2) (fun r HA sA hA => ?_)
          rw [bV_set] at hA
          exact q' _ _ ⟨r, rfl, sA, hA⟩
        obtain ⟨r3, rfl, sA, hA4⟩ := pp
        dsimp only [gName]
        have s7A := s8.trans (s9.trans sA)
        have fA := f6.same s7A
        have hSA := hS9.tx (same_tx sA)
        refine app_mv (m := 0) (t := (goM s i t).2) rfl fA (by rw [List.length_append, List.length_map, List.length_take]; omega) nl (fun Q' q' => ⟨_, rfl, _, rfl, _, rfl, _, rfl, q' _ _ _ _ _ (Same.refl _) (same_t (s9.trans sA) h8) (same_t sA h9) hSA.st hA4⟩) (fun HB sb fB => ?_)
        refine ⟨_, _, _, _, rfl, ?_, sb _ _ hnl (s7A _ _ hnr6)⟩
        rw [List.take_add_one, ht, List.map_append, ← List.append_assoc]
        exact fB
      · obtain ⟨z11, z12, z13, z14, rfl, f6, hnr6⟩ := pp
        rw [List.length_map, List.take_length] at f6
        have hS6 := hS.tx (same_tx f6.1)
        dsimp only
        refine if_end (fun bb H7 => H7 = H6 ∧ bb = decide (0 < h)) (fun Q' q' => ?_) (fun H7 pp => ?_) (fun H7 pp => ?_)
        · exact ⟨_, rfl, _, _, rfl, rfl, _, rfl, q' _ _ ⟨rfl, decide_eq_decide.mpr ⟨fun z => by omega, fun z => by omega⟩⟩⟩
        · obtain ⟨rfl, h0⟩ := pp
          have h0 := of_decide_eq_true h0.symm
          rw [if_pos h0] at ed
          refine asg_any (fun v H9 => ∃ r, v = .ref r ∧ Same H7 H9 ∧ SqT K H9 r (nV (s.ld.set i (s.ld.getD i 0 - 1)))) (fun Q' q' => ?_) (fun v H9 pp => ?_)
          · refine tup_set (j := 4) (i := 8) rfl rfl hS6.ld (by rw [List.length_map]; exact hld) (by rw [List.length_map, hok.l2]; exact c90) (fun H1 Q2 s1 q2 => ⟨_, rfl, _, rfl, a2, _, _, _, rfl, rfl, same_t s1 hS6.ld, nV_atI hld, _, _, rfl, rfl, q2⟩) (fun r H9 s9 h9 => ?_)
            dsimp only at h9
            rw [show ((s.ld.getD i 0 : Nat) : Int) - 1 = ((s.ld.getD i 0 - 1 : Nat) : Int) by omega, nV_set] at h9
            exact q' _ _ ⟨r, rfl, s9, h9⟩
          obtain ⟨r2, rfl, s9, h9⟩ := pp
          dsimp only [gName]
          have f9 := f6.same s9
          have hS9 := hS6.tx (same_tx s9)
          refine app_mv (σ := mvS a b p a1 a2 a3 a4 l (some (.int ((i : Nat) : Int))) (some (.int ((h : Nat) : Int))) (some (.ref nr)) z11 z12 (some (.ref r2)) z14) (m := 0) (t := (layM s i).2) rfl f9 (by rw [List.length_append, List.length_map]; omega) nl (fun Q' q' => ?_) (fun HA _ fA => ?_)
          · refine ⟨_, rfl, _, rfl, ?_⟩
            refine tup_set (j := 5) (i := 9) rfl rfl hS9.st (by rw [List.length_map]; exact hstl) (by rw [List.length_map, hok.l3]; omega) (fun H1 Q2 s1 q2 => ⟨_, rfl, _, rfl, a3, _, _, _, rfl, rfl, same_t s1 hS9.st, nV_atI hstl, _, _, rfl, rfl, q2⟩) (fun r3 HA sA hA3 => ?_)
            dsimp only at hA3
            rw [show ((s.st.getD h 0 : Nat) : Int) + 1 = ((s.st.getD h 0 + 1 : Nat) : Int) by omega, nV_set] at hA3
            refine ⟨_, rfl, q' _ _ _ _ _ sA (same_t sA hS9.sp) (same_t sA h9) ?_ (same_t sA hS9.cl)⟩
            show SqT K HA r3 (nV (s.st.set (s.sp.getD i 0) (s.st.getD (s.sp.getD i 0) 0 + 1)))
            rw [hh]
            exact hA3
          · refine fin _ _ ⟨_, _, _, _, rfl, ?_⟩
            rw [ed, ← List.append_assoc]
            exact fA
        · obtain ⟨rfl, h0⟩ := pp
          have h0 := of_decide_eq_false h0.symm
          rw [if_neg h0, List.append_nil] at ed
          refine fin _ _ ⟨_, _, _, _, rfl, ?_⟩
          rw [ed]
          exact f6
    · obtain ⟨rfl, hl0⟩ := pp
      have hl0 := of_decide_eq_false hl0.symm
      have ed : downs L s i = [] := by
        unfold downs
        rw [if_neg hl0]
      refine fin _ _ ⟨_, _, _, _, rfl, ?_⟩
      rw [ed, List.append_nil]
      exact f4
end
end Oa
namespace Oa
open PySem PySem.Spec PyProof.Rows L2 Oat
/-! ### keys of standings -/
def keyS (s : Sq) : NestedKey := stK [nV s.sp, nV s.ld, nV s.st, bV s.cl]
theorem fk_nat_inj : ∀ {xs ys : List Nat}, (nV xs).map fk = (nV ys).map fk → xs = ys
  | [], [], _ => rfl
  | [], _ :: _, h => by cases h
  | _ :: _, [], h => by cases h
  | x :: xs, y :: ys, h => by
    have h1 := (List.cons.inj h).1
    have h2 := fk_nat_inj (List.cons.inj h).2
    have h1 : ((x : Nat) : Int) = ((y : Nat) : Int) := by injection h1
    rw [h2, show x = y by omega]
theorem fk_bl_inj : ∀ {xs ys : List Bool}, (bV xs).map fk = (bV ys).map fk → xs = ys
  | [], [], _ => rfl
  | [], _ :: _, h => by cases h
  | _ :: _, [], h => by cases h
  | x :: xs, y :: ys, h => by
    have h1 := (List.cons.inj h).1
    have h2 := fk_bl_inj (List.cons.inj h).2
    have h1 : (if x = true then (1 : Int) else 0) = (if y = true then (1 : Int) else 0) := by injection h1
    have : x = y := by cases x <;> cases y <;> first | rfl | (simp at h1)
    rw [h2, this]
theorem keyS_inj {s t : Sq} (h : keyS s = keyS t) : s = t := by
  unfold keyS stK at h
  injection h with h
  simp only [List.map_cons, List.map_nil, List.cons.injEq, NestedKey.tup.injEq, and_true] at h
  obtain ⟨h1, h2, h3, h4⟩ := h
  obtain ⟨sp, ld, st, cl⟩ := s
  obtain ⟨sp', ld', st', cl'⟩ := t
  have e1 := fk_nat_inj h1
  have e2 := fk_nat_inj h2
  have e3 := fk_nat_inj h3
  have e4 := fk_bl_inj h4
  dsimp only at e1 e2 e3 e4
  rw [e1, e2, e3, e4]
theorem mem_keyS {s : Sq} {S : List Sq} : keyS s ∈ S.map keyS ↔ s ∈ S := by
  constructor
  · intro h
    obtain ⟨t, ht, e⟩ := List.mem_map.mp h
    rw [← keyS_inj e]
    exact ht
  · exact fun h => List.mem_map.mpr ⟨s, h, rfl⟩
theorem keyV_n : ∀ l : List Nat, (nV l).all KeyV = true
  | [] => rfl
  | x :: l => by
    show (KeyV (.int _) && (nV l).all KeyV) = true
    rw [keyV_n l]
    rfl
theorem keyV_b : ∀ l : List Bool, (bV l).all KeyV = true
  | [] => rfl
  | x :: l => by
    show (KeyV (.bl x) && (bV l).all KeyV) = true
    rw [keyV_b l]
    rfl
theorem paired_at2 {α β : Type} {R : α → β → Prop} : ∀ {xs : List α} {ys : List β} {i : Nat} {x : α}, Paired R xs ys → xs[i]? = some x → ∃ y, ys[i]? = some y ∧ R x y
  | _, _, 0, _, .cons a _, h => by cases h; exact ⟨_, rfl, a⟩
  | _, _, i + 1, _, .cons _ b, h => paired_at2 (i := i) b h
/-- [f(one) for one in l], one at j -/
theorem if_rt {t : TT} {tu tr : TS} {D : Ends} {σ : L2.St} {H : Hp} (Pr : Bool → Hp → Prop) (h : ∀ Q : Bool → Hp → Prop, (∀ b H', Pr b H' → Q b H') → t σ H Q) (h1 : ∀ H', Pr true H' → tu { D with nx := tr D } σ H') (h2 : ∀ H', Pr false H' → tr D σ H') : tSeq (tIfS t tu tNext) tr D σ H :=
  h _ fun b H' hb => by
    cases b with
    | true => exact h1 H' hb
    | false => exact h2 H' hb
section
variable {P : Program} {w : World} {K : PySem.W.Frag} {mg : Str → Option Value} {base : Heap}
theorem SqAt.stV {H : Hp} {p : Addr} {s : Sq} (h : SqAt K H p s) : StV K H p [nV s.sp, nV s.ld, nV s.st, bV s.cl] := by
  obtain ⟨a1, a2, a3, a4, h⟩ := h
  exact ⟨[a1, a2, a3, a4], h.p, .cons ⟨h.sp, keyV_n _⟩ (.cons ⟨h.ld, keyV_n _⟩ (.cons ⟨h.st, keyV_n _⟩ (.cons ⟨h.cl, keyV_b _⟩ .nil)))⟩
/-! ### what the search holds -/
def LyAt (K : PySem.W.Frag) (H : Hp) (l : Addr) (xs : List Sq) : Prop := ∃ ps : List Addr, H l = some (.lst (ps.map V.ref)) ∧ Paired (SqAt K H) ps xs
theorem LyAt.keep {H H' : Hp} {l : Addr} {xs : List Sq} (h : LyAt K H l xs) (e : ∀ o, H l = some o → H' l = some o) (x : TExt H H') : LyAt K H' l xs := by
  obtain ⟨ps, h1, h2⟩ := h
  exact ⟨ps, e _ h1, paired_imp h2 fun _ _ z => z.tx x⟩
theorem LyAt.noTup {H : Hp} {l : Addr} {xs : List Sq} (h : LyAt K H l xs) : NoTup (H l) := by
  obtain ⟨ps, h1, _⟩ := h
  rw [h1]
  exact trivial
abbrev SeenS (P : Program) (w : World) (K : PySem.W.Frag) (H : Hp) (d : Addr) (S : List Sq) : Prop := SeenAt P w K H d (S.map keyS)
theorem seenS_keep {H H' : Hp} {d : Addr} {S : List Sq} (h : SeenS P w K H d S) (e : ∀ o, H d = some o → H' d = some o) (x : TExt H H') : SeenS P w K H' d S := by
  have : H' d = H d := by
    obtain ⟨xs, h1, _⟩ := h
    rw [h1]
    exact e _ h1
  exact SeenAt.keep h this x
theorem same_but_of {H0 H H' : Hp} {l : Addr} (s : Same H0 H) (sb : SameBut l H H') (n : H0 l = none) : Same H0 H' := fun y o e => sb y o (ne_of_none e n) (s y o e)
structure SrNe (H0 : Hp) (sd ly lt : Addr) : Prop where
  nd : H0 sd = none
  ny : H0 ly = none
  nt : H0 lt = none
  dy : sd ≠ ly
  dt : sd ≠ lt
  yt : ly ≠ lt
structure SrAt (P : Program) (w : World) (K : PySem.W.Frag) (H0 H : Hp) (sd ly lt : Addr) (seen layer later : List Sq) : Prop where
  s : Same H0 H
  se : SeenS P w K H sd seen
  la : LyAt K H ly layer
  lt : LyAt K H lt later
theorem SrAt.same {H0 H H' : Hp} {sd ly lt : Addr} {seen layer later : List Sq} (h : SrAt P w K H0 H sd ly lt seen layer later) (s : Same H H') : SrAt P w K H0 H' sd ly lt seen layer later :=
  ⟨h.s.trans s, h.se.same s, h.la.keep (fun o e => s _ _ e) (same_tx s), h.lt.keep (fun o e => s _ _ e) (same_tx s)⟩
/-- l.append(x) -/
theorem ly_push {σ : L2.St} {D : Ends} {H : Hp} {i j : Nat} {l p : Addr} {xs : List Sq} {t : Sq} (hi : σ[i]? = some (some (.ref l))) (hj : σ[j]? = some (some (.ref p))) (h : LyAt K H l xs) (hz : xs.length < 1000000) (ht : SqAt K H p t)
    (q : ∀ H', SameBut l H H' → TExt H H' → LyAt K H' l (xs ++ [t]) → D.nx σ H') : tDrop (tBM K "list" rAppend (tVar i) (tCons (tVar j) tNil)) D σ H := by
  have hnt := h.noTup
  obtain ⟨ps, h1, h2⟩ := h
  refine ⟨_, hi, .inl ⟨rfl, _, sql h1⟩, _, hj, l, _, .ref p, rfl, rfl, h1, Nat.lt_of_lt_of_le (show (ps.map V.ref).length < 1000000 by rw [List.length_map, Paired.length h2]; exact hz) (by decide), ?_⟩
  have x : TExt H (upd H l (.lst (ps.map V.ref ++ [V.ref p]))) := tx_upd hnt
  refine q _ (fun y o hy e => by rw [upd_ne hy]; exact e) x ⟨ps ++ [p], by rw [upd_same, List.map_append]; rfl, paired_snoc (paired_imp h2 fun _ _ z => z.tx x) (ht.tx x)⟩
/-- d[x] = True -/
theorem seen_put {σ : L2.St} {D : Ends} {tr : TS} {H : Hp} {i j : Nat} {d p : Addr} {S : List Sq} {t : Sq} (hi : σ[i]? = some (some (.ref d))) (hj : σ[j]? = some (some (.ref p))) (h : SeenS P w K H d S) (hz : S.length < 1000000) (ht : SqAt K H p t) (hn : t ∉ S)
    (q : ∀ H', SameBut d H H' → TExt H H' → SeenS P w K H' d (S ++ [t]) → tr D σ H') : tSeq (tAsg (tC (.bl true)) (gSub (tVar i) (tVar j) (rPutSeen P w K))) tr D σ H := by
  refine ⟨_, hi, _, hj, d, p, _, _, rfl, rfl, rfl, ht.stV, h, fun z => hn (mem_keyS.mp z), Nat.le_trans (show (S.map keyS).length ≤ 1000000 by rw [List.length_map]; omega) (by decide), fun ob hs hnt => ?_⟩
  refine q _ (fun y o hy e => by rw [upd_ne hy]; exact e) (tx_upd hnt) ?_
  have : (S ++ [t]).map keyS = S.map keyS ++ [stK [nV t.sp, nV t.ld, nV t.st, bV t.cl]] := by
    rw [List.map_append]
    rfl
  unfold SeenS
  rw [this]
  exact hs
/-- x not in d -/
theorem seen_in {σ : L2.St} {H : Hp} {i j : Nat} {d p : Addr} {S : List Sq} {t : Sq} {Q : Bool → Hp → Prop} (hi : σ[i]? = some (some (.ref p))) (hj : σ[j]? = some (some (.ref d))) (h : SeenS P w K H d S) (ht : SqAt K H p t)
    (q : Q (!decide (t ∈ S)) H) : tTest (tOp (rNotSeen P w K) (tVar i) (tVar j)) σ H Q := by
  refine ⟨_, hi, _, hj, p, d, _, _, rfl, rfl, ht.stV, h, _, rfl, ?_⟩
  have : decide (stK [nV t.sp, nV t.ld, nV t.st, bV t.cl] ∈ S.map keyS) = decide (t ∈ S) := decide_eq_decide.mpr mem_keyS
  rw [this]
  exact q
theorem rep_flat {v : V} (n : Nat) : (List.replicate n [v]).flatten = List.replicate n v := by
  induction n with
  | zero => rfl
  | succ n ih => rw [List.replicate_succ, List.flatten_cons, ih, List.replicate_succ]; rfl
theorem nV_rep (n : Nat) : nV (List.replicate n 0) = List.replicate n (.int 0) := by
  unfold nV
  rw [List.map_replicate]
  rfl
theorem bV_rep (n : Nat) : bV (List.replicate n false) = List.replicate n (.bl false) := by
  unfold bV
  rw [List.map_replicate]
abbrev ssS (a b d : Addr) (left bound cnt : Nat) (p0 sd ly : Addr) (y9 y10 y11 y12 y13 : Option V) : L2.St := [some (.ref a), some (.ref b), some (.ref d), some (.int ((left : Nat) : Int)), some (.int ((bound : Nat) : Int)), some (.int ((cnt : Nat) : Int)), some (.ref p0), some (.ref sd), some (.ref ly), y9, y10, y11, y12, y13]
def sp_law_searched (K : PySem.W.Frag) : Sp := fun vs H Q _ => ∃ a b d c carts, ∃ bound : Nat, vs = [.ref a, .ref b, .ref d, .int ((c.left : Nat) : Int), .int ((bound : Nat) : Int)] ∧ CaseAt K H a b d c carts ∧ c.W.getD 0 none = none ∧ carts * (c.L.length + 3) ≤ 10 ∧ bound ≤ 8 ∧
  (∀ H', Same H H' → Q (.str "many") H') ∧ (∀ n : Nat, n ≤ bound → least c = some ((n : Nat) : Int) → ∀ H', Same H H' → Q (.int ((n : Nat) : Int)) H') ∧ ((∀ v, least c = some v → ((bound : Nat) : Int) < v) → ∀ H', Same H H' → Q .non H')
theorem c__law_searched (T : Txt K mg) : Cal P w K mg base CX0 3 "_law_searched" ["land_here", "works_here", "wants_here", "most_left", "bound_of"] (sp_law_searched K) := by
  refine cal0 T.d__law_searched sc__law_searched (fun _ _ _ _ _ _ us hl => match us, hl with | [_, _, _, _, _], _ => rfl) (fun vs H Q E h => ?_) (fun f cdv A outer s H vs Q E hr h => ?_)
  · obtain ⟨a, b, d, c, carts, bound, rfl, _⟩ := h
    rfl
  · obtain ⟨a, b, d, c, carts, bound, rfl, hC, hW0, h10, hb8, qm, qn, qz⟩ := h
    refine ⟨_, (pss_cons (ps_set (i := 5) sc__law_searched.nd rfl (Or.inl rfl) (pe_callB (lenS K) rfl T.b_len PySem.boot_len (pa_cons (pv 0) pa_nil)))
      (pss_cons (ps_set (i := 6) sc__law_searched.nd rfl (Or.inl rfl) (pe_tup (pa_cons (pe_op (repA K) (pe_tup (pa_cons pe_int pa_nil)) (pe_ix (ixT K) (pv 1) pe_int (fun _ _ => rfl))) (pa_cons (pe_op (repA K) (pe_tup (pa_cons pe_int pa_nil)) (pe_ix (ixT K) (pv 1) pe_int (fun _ _ => rfl))) (pa_cons (pe_op (repA K) (pe_tup (pa_cons pe_int pa_nil)) (pv 5)) (pa_cons (pe_op (catA K) (pe_tup (pa_cons pe_bl pa_nil)) (pe_op (repA K) (pe_tup (pa_cons pe_bl pa_nil)) (pe_op op_sub (pv 5) pe_int))) pa_nil))))))
      (pss_cons (ps_set (i := 7) sc__law_searched.nd rfl (Or.inl rfl) (pe_seen1 P w K (pv 6) pe_bl hr.units))
      (pss_cons (ps_set (i := 8) sc__law_searched.nd rfl (Or.inl rfl) (pe_lst (pa_cons (pv 6) pa_nil)))
      (pss_cons (ps_for PassesOwn.never rfl (pi_range1 rfl T.b_range (pa_cons (pe_op op_add (pv 4) pe_int) pa_nil)) (pg_name (i := 9) sc__law_searched.nd rfl (Or.inl rfl)) (pss_cons (ps_set (i := 10) sc__law_searched.nd rfl (Or.inl rfl) (pe_lst pa_nil))
      (pss_cons (ps_set (i := 11) sc__law_searched.nd rfl (Or.inl rfl) pe_int)
      (pss_cons (ps_while PassesOwn.never (pt_cmpR op_lt (pv 11) (pe_callB (lenS K) rfl T.b_len PySem.boot_len (pa_cons (pv 8) pa_nil)) (nomark _)) (pss_cons (ps_if (pt_val (pcall (c__law_good T) (hr.mono (by omega)) (pa_cons (pv 0) (pa_cons (pv 2) (pa_cons (pv 3) (pa_cons (pe_ix (ixL K) (pv 8) (pv 11) (fun _ _ => rfl)) pa_nil)))))) (pss_one (ps_ret (pv 9))) pss_nil)
      (pss_cons (ps_for PassesOwn.never rfl (piL K (pcall (c__law_moves T) (hr.mono (by omega)) (pa_cons (pv 0) (pa_cons (pv 1) (pa_cons (pe_ix (ixL K) (pv 8) (pv 11) (fun _ _ => rfl)) pa_nil))))) (pg_tup rfl (pgs_cons (pg_name (i := 12) sc__law_searched.nd rfl (Or.inl rfl)) (pgs_cons (pg_name (i := 13) sc__law_searched.nd rfl (Or.inl rfl)) pgs_nil))) (pss_one (ps_if (pt_cmpR op_eq (pv 12) pe_int (nomark _)) (pss_one (ps_expr (pe_bm PySem.F.plainAttrs_list PySem.F.slot_list_append PySem.F.type_list_append mt_append (pv 10) (pa_cons (pv 13) pa_nil)))) (pss_one (ps_if (pt_cmpR (op_notSeen P w K hr.units) (pv 13) (pv 7) rfl) (pss_cons (ps_asg pe_bl (pg_sub (pv 7) (pv 13) (set_seen P w K hr.units)))
      (pss_one (ps_expr (pe_bm PySem.F.plainAttrs_list PySem.F.slot_list_append PySem.F.type_list_append mt_append (pv 8) (pa_cons (pv 13) pa_nil))))) pss_nil)))))
      (pss_cons (ps_set (i := 11) sc__law_searched.nd rfl (Or.inl rfl) (pe_op op_add (pv 11) pe_int))
      (pss_one (ps_if (pt_cmpR op_gt (pv 11) pe_int (nomark _)) (pss_one (ps_ret pe_str)) pss_nil))))))
      (pss_cons (ps_set (i := 8) sc__law_searched.nd rfl (Or.inl rfl) (pe_lst pa_nil))
      (pss_one (ps_for PassesOwn.never rfl (piL K (pv 10)) (pg_name (i := 13) sc__law_searched.nd rfl (Or.inl rfl)) (pss_one (ps_if (pt_cmpR (op_notSeen P w K hr.units) (pv 13) (pv 7) rfl) (pss_cons (ps_asg pe_bl (pg_sub (pv 7) (pv 13) (set_seen P w K hr.units)))
      (pss_one (ps_expr (pe_bm PySem.F.plainAttrs_list PySem.F.slot_list_append PySem.F.type_list_append mt_append (pv 8) (pa_cons (pv 13) pa_nil))))) pss_nil)))))))))
      (pss_one (ps_ret pe_non))))))), ?_⟩
    have hwf := hC.wf
    have hn := hC.n
    have h2 := hC.r2
    have hN := hC.c1
    have hlf := hC.lf
    have hWl := hC.wl
    have c6 := hC.c6
    have el : (landV c.L).length = c.L.length + 1 := landV_len c.L
    refine ⟨_, rfl, a, _, rfl, .inr hC.l, ?_⟩
    dsimp only [gName]
    rw [el]
    show tSeq (tAsg _ _) _ _ [some (.ref a), some (.ref b), some (.ref d), some (.int ((c.left : Nat) : Int)), some (.int ((bound : Nat) : Int)), some (.int ((c.L.length + 1 : Nat) : Int)), none, none, none, none, none, none, none, none] H
    -- first
    refine asg_any (fun v H' => ∃ p0, v = .ref p0 ∧ Same H H' ∧ SqAt K H' p0 (first c.L.length carts)) (fun Q' q' => ?_) (fun v H1 pp => ?_)
    · refine ⟨by show 1 ≤ sizeLine; decide, fun t1 n1 => ?_⟩
      have s1 := same_new (o := .tup [V.int 0]) n1
      refine ⟨_, rfl, b, _, 0, _, rfl, rfl, same_t s1 hC.k, atI_nat (j := 0) rfl, t1, carts, _, rfl, rfl, sqt upd_same, (fun z => nomatch z), by omega, by show 1 ≤ 1000; decide, fun b1 H2 s2 h2 => ?_⟩
      have s12 := s1.trans s2
      refine ⟨by show 1 ≤ sizeLine; decide, fun t3 n3 => ?_⟩
      have s3 := same_new (o := .tup [V.int 0]) n3
      refine ⟨_, rfl, b, _, 0, _, rfl, rfl, same_t (s12.trans s3) hC.k, atI_nat (j := 0) rfl, t3, carts, _, rfl, rfl, sqt upd_same, (fun z => nomatch z), by omega, by show 1 ≤ 1000; decide, fun b2 H4 s4 h4 => ?_⟩
      have s34 := s3.trans s4
      refine ⟨by show 1 ≤ sizeLine; decide, fun t5 n5 => ?_⟩
      have s5 := same_new (o := .tup [V.int 0]) n5
      refine ⟨_, rfl, t5, c.L.length + 1, _, rfl, rfl, sqt upd_same, (fun z => nomatch z), by omega, by show 1 ≤ 1000; decide, fun b3 H6 s6 h6 => ?_⟩
      have s56 := s5.trans s6
      refine ⟨by show 1 ≤ sizeLine; decide, fun t7 n7 => ?_⟩
      have s7 := same_new (o := .tup [V.bl true]) n7
      refine ⟨by show 1 ≤ sizeLine; decide, fun t8 n8 => ?_⟩
      have s8 := same_new (o := .tup [V.bl false]) n8
      have h7 := s8 _ _ (upd_same (H := H6) (a := t7) (o := .tup [V.bl true]))
      refine ⟨_, rfl, _, _, rfl, rfl, t8, c.L.length, _, rfl, ?_, sqt upd_same, (fun z => nomatch z), by omega, by show 1 ≤ 1000; decide, fun b9 H9 s9 h9 => ?_⟩
      · dsimp only
        congr 1
        omega
      rw [rep_flat] at h2 h4 h6 h9
      refine catA_any (same_t s9 (sqt h7)) h9 (Nat.le_trans (show 1 + (List.replicate c.L.length (V.bl false)).length ≤ 100 by rw [List.length_replicate]; omega) (by decide)) fun b4 HA sA hA => ?_
      refine ⟨by show 4 ≤ sizeLine; decide, fun p0 np => ?_⟩
      have sB := same_new (o := .tup [V.ref b1, .ref b2, .ref b3, .ref b4]) np
      have s6B := s7.trans (s8.trans (s9.trans (sA.trans sB)))
      refine q' _ _ ⟨p0, rfl, s12.trans (s34.trans (s56.trans s6B)), b1, b2, b3, b4, ⟨sqt upd_same, ?_, ?_, ?_, ?_⟩⟩
      · show SqT K _ b1 (nV (List.replicate carts 0))
        rw [nV_rep]
        exact same_t (s34.trans (s56.trans s6B)) h2
      · show SqT K _ b2 (nV (List.replicate carts 0))
        rw [nV_rep]
        exact same_t (s56.trans s6B) h4
      · show SqT K _ b3 (nV (List.replicate (c.L.length + 1) 0))
        rw [nV_rep]
        exact same_t s6B h6
      · show SqT K _ b4 (.bl true :: bV (List.replicate c.L.length false))
        rw [bV_rep]
        exact same_t sB hA
    obtain ⟨p0, rfl, s1, hp0⟩ := pp
    dsimp only [gName]
    show tSeq (tAsg _ _) _ _ [some (.ref a), some (.ref b), some (.ref d), some (.int ((c.left : Nat) : Int)), some (.int ((bound : Nat) : Int)), some (.int ((c.L.length + 1 : Nat) : Int)), some (.ref p0), none, none, none, none, none, none, none] H1
    -- seen
    refine asg_any (fun v H' => ∃ sd, v = .ref sd ∧ Same H1 H' ∧ H1 sd = none ∧ SeenS P w K H' sd [first c.L.length carts]) (fun Q' q' => ?_) (fun v H2 pp => ?_)
    · intro sd nsd
      have s2 := same_new (o := SeenO P w sd []) nsd
      refine ⟨_, rfl, upd_same, p0, _, rfl, rfl, (hp0.tx (same_tx s2)).stV, fun ob hs => ?_⟩
      exact q' _ _ ⟨sd, rfl, same_mut s2 nsd, nsd, hs⟩
    obtain ⟨sd, rfl, s2, nsd, hsd⟩ := pp
    have hp2 := hp0.tx (same_tx s2)
    dsimp only [gName]
    show tSeq (tAsg _ _) _ _ [some (.ref a), some (.ref b), some (.ref d), some (.int ((c.left : Nat) : Int)), some (.int ((bound : Nat) : Int)), some (.int ((c.L.length + 1 : Nat) : Int)), some (.ref p0), some (.ref sd), none, none, none, none, none, none] H2
    -- layer
    refine ⟨_, rfl, by show 1 ≤ sizeLine; decide, fun ly0 nly0 => ?_⟩
    have s3 := same_new (o := .lst [V.ref p0]) nly0
    have hly0 : LyAt K (upd H2 ly0 (.lst [V.ref p0])) ly0 [first c.L.length carts] := ⟨[p0], upd_same, .cons (hp2.tx (same_tx s3)) .nil⟩
    have hsd3 := hsd.same s3
    have nly : H ly0 = none := (s1.trans s2).free nly0
    have nsd0 : H sd = none := s1.free nsd
    have s03 := s1.trans (s2.trans s3)
    dsimp only [gName]
    show tSeq (tFor _ _ _) _ _ (ssS a b d c.left bound (c.L.length + 1) p0 sd ly0 none none none none none) (upd H2 ly0 (.lst [V.ref p0]))
    generalize upd H2 ly0 (.lst [V.ref p0]) = H3 at hly0 hsd3 s03 s3
    refine ⟨_, rfl, _, _, rfl, rfl, _, rfl, by omega, by omega, ?_⟩
    rw [show (((bound : Nat) : Int) + 1).toNat = bound + 1 by omega]
    refine for_it walk_range (fun i σ H' => ∃ ly y9 y10 y11 y12 y13 seen layer, σ = ssS a b d c.left bound (c.L.length + 1) p0 sd ly y9 y10 y11 y12 y13 ∧ Same H H' ∧ H ly = none ∧ SeenS P w K H' sd seen ∧ LyAt K H' ly layer ∧ Out c.L c.room carts c.W c.left i seen layer ∧ seen.length ≤ 1 + 70000 * i ∧ layer.length ≤ 30100)
      ⟨ly0, _, _, _, _, _, _, _, rfl, s03, nly, hsd3, hly0, out_first, by show 1 ≤ _; omega, by show 1 ≤ _; omega⟩ (fun _ _ _ _ _ => trivial) (fun i x σ H4 H5 hi pp y => ?_) (fun σ H4 pp => ?_)
    case refine_2 =>
      obtain ⟨ly, y9, y10, y11, y12, y13, seen, layer, rfl, s4, _, _, _, hO, _, _⟩ := pp
      refine qz (fun v hv => ?_) H4 s4
      have := out_none hwf hn h2 hN hlf hWl hW0 hO hv
      omega
    obtain ⟨ly, y9, y10, y11, y12, y13, seen, layer, rfl, s4, nly4, hse4, hla4, hO, hls, hll⟩ := pp
    obtain ⟨rfl, rfl⟩ := y
    clear hly0 hsd3 s03 s3 nly nly0 hp2 hp0 s1 s2 hsd nsd
    dsimp only
    rw [Int.zero_add]
    -- later, at
    refine ⟨Nat.zero_le _, fun lt nlt => ?_⟩
    have s5 := same_new (o := .lst []) nlt
    have hR5 : SrAt P w K H (upd H5 lt (.lst [])) sd ly lt seen layer [] := ⟨s4.trans s5, hse4.same s5, hla4.keep (fun o e => s5 _ _ e) (same_tx s5), ⟨[], upd_same, .nil⟩⟩
    have hNe : SrNe H sd ly lt := by
      refine ⟨nsd0, nly4, s4.free nlt, fun z => ?_, fun z => ?_, fun z => ?_⟩
      · obtain ⟨xs, e1, _⟩ := hse4
        obtain ⟨ps, e2, _⟩ := hla4
        rw [z, e2] at e1
        cases e1
      · obtain ⟨xs, e1, _⟩ := hse4
        rw [z, nlt] at e1
        cases e1
      · obtain ⟨ps, e2, _⟩ := hla4
        rw [z, nlt] at e2
        cases e2
    dsimp only [gName]
    show tSeq (tAsg _ _) _ _ (ssS a b d c.left bound (c.L.length + 1) p0 sd ly (some (.int ((i : Nat) : Int))) (some (.ref lt)) y11 y12 y13) (upd H5 lt (.lst []))
    generalize upd H5 lt (.lst []) = H6 at hR5 s5
    show tSeq (tWhile _ _) _ _ (ssS a b d c.left bound (c.L.length + 1) p0 sd ly (some (.int ((i : Nat) : Int))) (some (.ref lt)) (some (.int 0)) y12 y13) H6
    clear hse4 hla4 s4 s5 nlt
    refine ⟨fun m σ' H' => ∃ (k : Nat) (seen' layer' later' : List Sq) (y12 y13 : Option V), σ' = ssS a b d c.left bound (c.L.length + 1) p0 sd ly (some (.int ((i : Nat) : Int))) (some (.ref lt)) (some (.int ((k : Nat) : Int))) y12 y13 ∧ m = 3001 - k ∧ k ≤ 3000 ∧ SrAt P w K H H' sd ly lt seen' layer' later' ∧ Wh c.L c.room carts c.W c.left i seen' layer' later' k ∧ k ≤ layer'.length ∧ seen'.length ≤ 1 + 70000 * i + 10 * k ∧ layer'.length ≤ 30100 + 10 * k ∧ later'.length ≤ 10 * k,
      ⟨3001, 0, seen, layer, [], y12, y13, rfl, rfl, Nat.zero_le _, hR5, hO.wh, Nat.zero_le _, by omega, by omega, Nat.zero_le _⟩, fun m σ' H7 WW => ?_⟩
    clear hR5 hO hls hll
    obtain ⟨k, seen1, layer1, later1, z12, z13, rfl, rfl, hk, hR, hWh, hkl, b1, b2, b3⟩ := WW
    obtain ⟨ps, hps, hpp⟩ := id hR.la
    have hpl : ps.length = layer1.length := Paired.length hpp
    refine ⟨_, rfl, _, rfl, ly, _, rfl, .inl (sql hps), _, _, rfl, rfl, _, rfl, ite2 (fun z => ?_) (fun z => ?_)⟩
    · have z := of_decide_eq_true z
      have hkl1 : k < layer1.length := by
        rw [List.length_map, hpl] at z
        omega
      refine ⟨_, fun σ' H' z => z, ?_⟩
      -- the standing that is looked at
      obtain ⟨x, hx⟩ : ∃ x, layer1[k]? = some x := ⟨_, List.getElem?_eq_getElem hkl1⟩
      obtain ⟨px, hpx, hxA⟩ : ∃ px, ps[k]? = some px ∧ SqAt K H7 px x := by
        obtain ⟨px, h1⟩ : ∃ px, ps[k]? = some px := ⟨_, List.getElem?_eq_getElem (by omega)⟩
        obtain ⟨x', h3, h4⟩ := paired_at2 hpp h1
        rw [hx] at h3
        rw [Option.some.inj h3]
        exact ⟨px, h1, h4⟩
      have hxR : Reach c.L c.room carts i x := hWh.rc x (List.mem_of_getElem? hx)
      have hxO := reach_ok hwf hxR
      have hC7 := hC.same hR.s
      have hpv : (ps.map V.ref)[k]? = some (.ref px) := by rw [List.getElem?_map, hpx]; rfl
      show tSeq (tIfS _ _ _) _ _ (ssS a b d c.left bound (c.L.length + 1) p0 sd ly (some (.int ((i : Nat) : Int))) (some (.ref lt)) (some (.int ((k : Nat) : Int))) z12 z13) H7
      refine if_rt (fun bb H8 => Same H7 H8 ∧ bb = goodF c.W c.left x) (fun Q' q' => ?_) (fun H8 pp => ?_) (fun H8 pp => ?_)
      · refine ⟨_, rfl, _, rfl, _, rfl, _, rfl, _, rfl, ly, _, _, _, rfl, rfl, sql hps, atI_nat hpv, a, c.L, d, c.W, c.left, px, x, carts, rfl, hC7.l, hn, hC7.w, hWl, hxA, hxO, c6, fun H8 s8 => ?_⟩
        exact ⟨_, rfl, q' _ _ ⟨s8, rfl⟩⟩
      · obtain ⟨s8, hg⟩ := pp
        have hl := wh_found hwf hn h2 hN hlf hWl hW0 hWh hx hg.symm
        exact ⟨_, rfl, qn i (by omega) hl H8 (hR.s.trans s8)⟩
      obtain ⟨s8, hg⟩ := pp
      have hg := hg.symm
      have hR8 := hR.same s8
      have hxA8 := hxA.tx (same_tx s8)
      have hC8 := hC7.same s8
      have hps8 := s8 _ _ hps
      clear hR hxA hC7 hps hpp
      -- its moves
      refine ⟨_, rfl, _, rfl, _, rfl, _, rfl, ly, _, _, _, rfl, rfl, sql hps8, atI_nat hpv, a, c.L, b, carts, c.room, px, x, rfl, hC8.l, hwf, hn, hC8.k, c6, hxA8, hxO, fun lm H9 nlm hfd => ?_⟩
      obtain ⟨s9, qs, hqs, hqp⟩ := hfd
      have hR9 := hR8.same s9
      have hql : qs.length = (movesF c.L c.room carts x).length := Paired.length hqp
      have hml := Nat.le_trans (moves_le c.L c.room carts x) h10
      have nmd : lm ≠ sd := fun z => by
        obtain ⟨xs, e1, _⟩ := hR8.se
        rw [← z, nlm] at e1
        cases e1
      have nmy : lm ≠ ly := fun z => by rw [← z, nlm] at hps8; cases hps8
      have nmt : lm ≠ lt := fun z => by
        obtain ⟨xs, e1, _⟩ := hR8.lt
        rw [← z, nlm] at e1
        cases e1
      clear hR8 hxA8 hC8 hps8 s8 nlm s9
      refine ⟨lm, rfl, ⟨_, sql hqs⟩, ?_⟩
      refine for_it (walk_list (xs := qs.map V.ref)) (fun j σ' H' => ∃ (seen2 layer2 later2 : List Sq) (y12 y13 : Option V), σ' = ssS a b d c.left bound (c.L.length + 1) p0 sd ly (some (.int ((i : Nat) : Int))) (some (.ref lt)) (some (.int ((k : Nat) : Int))) y12 y13 ∧ SrAt P w K H H' sd ly lt seen2 layer2 later2 ∧ Mv c.L c.room carts c.W c.left i seen2 layer2 later2 k x j ∧ H' lm = some (.lst (qs.map V.ref)) ∧ Paired (MvAt K H') qs (movesF c.L c.room carts x) ∧ seen2.length ≤ 1 + 70000 * i + 10 * k + j ∧ layer2.length ≤ 30100 + 10 * k + j ∧ later2.length ≤ 10 * k + j)
        ⟨_, _, _, _, _, rfl, hR9, hWh.mv hx, hqs, hqp, by omega, by omega, by omega⟩ (fun j σ' H' _ pp => ?_) (fun j v σ' HA HB hj pp y => ?_) (fun σ' HA pp => ?_)
      · obtain ⟨_, _, _, _, _, _, _, _, h2, _⟩ := pp
        exact sql h2
      · obtain ⟨seen2, layer2, later2, v12, v13, rfl, hRA, hMv, hqA, hqpA, d1, d2, d3⟩ := pp
        obtain ⟨rfl, hv⟩ := y
        rw [List.getElem?_map] at hv
        obtain ⟨qa, hqa, rfl⟩ := Option.map_eq_some_iff.mp hv
        obtain ⟨⟨mm, t⟩, hmt, pt, hpt, hptA⟩ := paired_at2 hqpA hqa
        have hmk := moves_kind (List.mem_of_getElem? hmt)
        have hj10 : j < 10 := by
          have := (List.getElem?_eq_some_iff.mp hmt).1
          omega
        refine ⟨qa, _, rfl, hpt, rfl, _, _, rfl, _, _, rfl, rfl, ?_⟩
        dsimp only [gName]
        show tIfS _ _ _ _ (ssS a b d c.left bound (c.L.length + 1) p0 sd ly (some (.int ((i : Nat) : Int))) (some (.ref lt)) (some (.int ((k : Nat) : Int))) (some (.int ((mm : Nat) : Int))) (some (.ref pt))) HB
        refine if_end (fun bb HC => HC = HB ∧ bb = decide (mm = 1)) (fun Q' q' => ?_) (fun HC pp => ?_) (fun HC pp => ?_)
        · refine ⟨_, rfl, rfl, _, rfl, q' _ _ ⟨rfl, decide_eq_decide.mpr ⟨fun z => ?_, fun z => by rw [z]; rfl⟩⟩⟩
          injection z with z
          omega
        · obtain ⟨rfl, h1⟩ := pp
          have h1 := of_decide_eq_true h1.symm
          subst h1
          refine ly_push (i := 10) (j := 13) rfl rfl hRA.lt (by omega) hptA (fun HD sb xD hlt => ?_)
          refine ⟨_, _, _, _, _, rfl, ⟨same_but_of hRA.s sb hNe.nt, seenS_keep hRA.se (fun o e => sb _ _ hNe.dt e) xD, hRA.la.keep (fun o e => sb _ _ hNe.yt e) xD, hlt⟩, hMv.late hmt, sb _ _ nmt hqA, paired_imp hqpA (fun _ _ z => z.tx xD), by omega, by omega, ?_⟩
          rw [List.length_append]
          show later2.length + 1 ≤ _
          omega
        · obtain ⟨rfl, h1⟩ := pp
          have h1 := of_decide_eq_false h1.symm
          have h0 : mm = 0 := by omega
          subst h0
          refine if_end (fun bb HD => HD = HC ∧ bb = !decide (t ∈ seen2)) (fun Q' q' => ?_) (fun HD pp => ?_) (fun HD pp => ?_)
          · exact seen_in (i := 13) (j := 7) rfl rfl hRA.se hptA (q' _ _ ⟨rfl, rfl⟩)
          · obtain ⟨rfl, hn2⟩ := pp
            have hn2 : t ∉ seen2 := by
              have : decide (t ∈ seen2) = false := by
                cases e : decide (t ∈ seen2) with
                | false => rfl
                | true => rw [e] at hn2; cases hn2
              exact of_decide_eq_false this
            refine seen_put (i := 7) (j := 13) rfl rfl hRA.se (by omega) hptA hn2 (fun HE sb xE hse => ?_)
            have hla := hRA.la.keep (fun o e => sb _ _ hNe.dy.symm e) xE
            refine ly_push (i := 8) (j := 13) rfl rfl hla (by omega) (hptA.tx xE) (fun HF sb2 xF hla2 => ?_)
            refine ⟨_, _, _, _, _, rfl, ⟨same_but_of (same_but_of hRA.s sb hNe.nd) sb2 hNe.ny, seenS_keep hse (fun o e => sb2 _ _ hNe.dy e) xF, hla2, (hRA.lt.keep (fun o e => sb _ _ hNe.dt.symm e) xE).keep (fun o e => sb2 _ _ hNe.yt.symm e) xF⟩, hMv.fresh hmt, sb2 _ _ nmy (sb _ _ nmd hqA), paired_imp hqpA (fun _ _ z => (z.tx xE).tx xF), ?_, ?_, by omega⟩
            · rw [List.length_append]
              show seen2.length + 1 ≤ _
              omega
            · rw [List.length_append]
              show layer2.length + 1 ≤ _
              omega
          · obtain ⟨rfl, hn2⟩ := pp
            have hn2 : t ∈ seen2 := by
              have : decide (t ∈ seen2) = true := by
                cases e : decide (t ∈ seen2) with
                | true => rfl
                | false => rw [e] at hn2; cases hn2
              exact of_decide_eq_true this
            exact ⟨_, _, _, _, _, rfl, hRA, hMv.known hmt hn2, hqA, hqpA, by omega, by omega, by omega⟩
      · obtain ⟨seen2, layer2, later2, v12, v13, rfl, hRA, hMv, _, _, d1, d2, d3⟩ := pp
        rw [List.length_map, hql] at hMv d1 d2 d3
        have hWn := hMv.next hg
        have hkl2 : k < layer2.length := (List.getElem?_eq_some_iff.mp hMv.at_).1
        -- at = at + 1
        refine ⟨_, rfl, _, _, rfl, rfl, ?_⟩
        dsimp only [gName]
        rw [show ((k : Nat) : Int) + 1 = ((k + 1 : Nat) : Int) by omega]
        show tIfS _ _ _ _ (ssS a b d c.left bound (c.L.length + 1) p0 sd ly (some (.int ((i : Nat) : Int))) (some (.ref lt)) (some (.int ((k + 1 : Nat) : Int))) v12 v13) HA
        refine if_end (fun bb HB => HB = HA ∧ bb = decide (3000 < k + 1)) (fun Q' q' => ?_) (fun HB pp => ?_) (fun HB pp => ?_)
        · exact ⟨_, rfl, _, _, rfl, rfl, _, rfl, q' _ _ ⟨rfl, decide_eq_decide.mpr ⟨fun z => by omega, fun z => by omega⟩⟩⟩
        · obtain ⟨rfl, _⟩ := pp
          exact qm HB hRA.s
        · obtain ⟨rfl, h3⟩ := pp
          have h3 := of_decide_eq_false h3.symm
          exact ⟨3001 - (k + 1), by omega, k + 1, seen2, layer2, later2, v12, v13, rfl, rfl, by omega, hRA, hWn, by omega, by omega, by omega, by omega⟩
    · have z := of_decide_eq_false (Bool.eq_false_iff.mpr z)
      have hkl1 : k = layer1.length := by
        rw [List.length_map, hpl] at z
        omega
      rw [hkl1] at hWh
      have hFi := hWh.fi
      dsimp only
      show tSeq (tAsg _ _) _ _ (ssS a b d c.left bound (c.L.length + 1) p0 sd ly (some (.int ((i : Nat) : Int))) (some (.ref lt)) (some (.int ((k : Nat) : Int))) z12 z13) H7
      -- layer = []
      refine ⟨Nat.zero_le _, fun ly2 nly2 => ?_⟩
      have s8 := same_new (o := .lst []) nly2
      have hR8 : SrAt P w K H (upd H7 ly2 (.lst [])) sd ly2 lt seen1 [] later1 := ⟨hR.s.trans s8, hR.se.same s8, ⟨[], upd_same, .nil⟩, hR.lt.keep (fun o e => s8 _ _ e) (same_tx s8)⟩
      have hNe2 : SrNe H sd ly2 lt := by
        refine ⟨hNe.nd, hR.s.free nly2, hNe.nt, fun z => ?_, hNe.dt, fun z => ?_⟩
        · obtain ⟨xs, e1, _⟩ := hR.se
          rw [z, nly2] at e1
          cases e1
        · obtain ⟨xs, e1, _⟩ := hR.lt
          rw [← z, nly2] at e1
          cases e1
      dsimp only [gName]
      show tFor _ _ _ _ (ssS a b d c.left bound (c.L.length + 1) p0 sd ly2 (some (.int ((i : Nat) : Int))) (some (.ref lt)) (some (.int ((k : Nat) : Int))) z12 z13) (upd H7 ly2 (.lst []))
      generalize upd H7 ly2 (.lst []) = H8 at hR8 s8
      have hrl := hWh.rl
      clear hR s8 hps hpp hNe nly2 hWh
      obtain ⟨ts, hts, htp⟩ := id hR8.lt
      have htl : ts.length = later1.length := Paired.length htp
      refine ⟨_, rfl, lt, rfl, ⟨_, sql hts⟩, ?_⟩
      refine for_it (walk_list (xs := ts.map V.ref)) (fun j σ' H' => ∃ (seen2 layer2 : List Sq) (y13 : Option V), σ' = ssS a b d c.left bound (c.L.length + 1) p0 sd ly2 (some (.int ((i : Nat) : Int))) (some (.ref lt)) (some (.int ((k : Nat) : Int))) z12 y13 ∧ SrAt P w K H H' sd ly2 lt seen2 layer2 later1 ∧ H' lt = some (.lst (ts.map V.ref)) ∧ Paired (SqAt K H') ts later1 ∧ Fi c.L c.room carts c.W c.left i later1 seen2 layer2 j ∧ seen2.length ≤ 1 + 70000 * i + 10 * k + j ∧ layer2.length ≤ j)
        ⟨_, _, _, rfl, hR8, hts, htp, hFi, by omega, Nat.zero_le _⟩ (fun j σ' H' _ pp => ?_) (fun j v σ' HA HB hj pp y => ?_) (fun σ' HA pp => ?_)
      · obtain ⟨_, _, _, _, _, h2, _⟩ := pp
        exact sql h2
      · obtain ⟨seen2, layer2, v13, rfl, hRA, hqA, hqpA, hF, d1, d2⟩ := pp
        obtain ⟨rfl, hv⟩ := y
        rw [List.getElem?_map] at hv
        obtain ⟨pt, hpt, rfl⟩ := Option.map_eq_some_iff.mp hv
        obtain ⟨t, hjt, hptA⟩ := paired_at2 hqpA hpt
        have hjl : j < later1.length := (List.getElem?_eq_some_iff.mp hjt).1
        dsimp only [gName]
        show tIfS _ _ _ _ (ssS a b d c.left bound (c.L.length + 1) p0 sd ly2 (some (.int ((i : Nat) : Int))) (some (.ref lt)) (some (.int ((k : Nat) : Int))) z12 (some (.ref pt))) HB
        refine if_end (fun bb HD => HD = HB ∧ bb = !decide (t ∈ seen2)) (fun Q' q' => ?_) (fun HD pp => ?_) (fun HD pp => ?_)
        · exact seen_in (i := 13) (j := 7) rfl rfl hRA.se hptA (q' _ _ ⟨rfl, rfl⟩)
        · obtain ⟨rfl, hn2⟩ := pp
          have hn2 : t ∉ seen2 := by
            have : decide (t ∈ seen2) = false := by
              cases e : decide (t ∈ seen2) with
              | false => rfl
              | true => rw [e] at hn2; cases hn2
            exact of_decide_eq_false this
          refine seen_put (i := 7) (j := 13) rfl rfl hRA.se (by omega) hptA hn2 (fun HE sb xE hse => ?_)
          have hla := hRA.la.keep (fun o e => sb _ _ hNe2.dy.symm e) xE
          refine ly_push (i := 8) (j := 13) rfl rfl hla (by omega) (hptA.tx xE) (fun HF sb2 xF hla2 => ?_)
          refine ⟨_, _, _, rfl, ⟨same_but_of (same_but_of hRA.s sb hNe2.nd) sb2 hNe2.ny, seenS_keep hse (fun o e => sb2 _ _ hNe2.dy e) xF, hla2, (hRA.lt.keep (fun o e => sb _ _ hNe2.dt.symm e) xE).keep (fun o e => sb2 _ _ hNe2.yt.symm e) xF⟩, sb2 _ _ hNe2.yt.symm (sb _ _ hNe2.dt.symm hqA), paired_imp hqpA (fun _ _ z => (z.tx xE).tx xF), hF.fresh hjt (hrl t (List.mem_of_getElem? hjt)), ?_, ?_⟩
          · rw [List.length_append]
            show seen2.length + 1 ≤ _
            omega
          · rw [List.length_append]
            show layer2.length + 1 ≤ _
            omega
        · obtain ⟨rfl, hn2⟩ := pp
          have hn2 : t ∈ seen2 := by
            have : decide (t ∈ seen2) = true := by
              cases e : decide (t ∈ seen2) with
              | true => rfl
              | false => rw [e] at hn2; cases hn2
            exact of_decide_eq_true this
          exact ⟨_, _, _, rfl, hRA, hqA, hqpA, hF.known hjt hn2, by omega, by omega⟩
      · obtain ⟨seen2, layer2, v13, rfl, hRA, _, _, hF, d1, d2⟩ := pp
        rw [List.length_map, htl] at hF d1 d2
        exact ⟨ly2, _, _, _, _, _, seen2, layer2, rfl, hRA.s, hNe2.ny, hRA.se, hRA.la, hF.out, by omega, by omega⟩
end
end Oa
namespace Oa
open PySem PySem.Spec PyProof.Rows L2 Oat
section
variable {P : Program} {w : World} {K : PySem.W.Frag} {mg : Str → Option Value} {base : Heap}
/-! ### the law's small works -/
abbrev TriOk (c r k o : Nat) : Prop := 1 ≤ c ∧ c ≤ 2 ∧ 2 ≤ r ∧ r ≤ 5 ∧ 1 ≤ k ∧ k ≤ 2 ∧ c * (k + 3) ≤ 10 ∧ 1 ≤ o ∧ o ≤ 6
def Tri (K : PySem.W.Frag) (H : Hp) (v : V) : Prop := ∃ (u t : Addr) (c r k o : Nat), v = .ref u ∧ SqT K H u [.ref t, .int ((k + 1 : Nat) : Int), .int ((o : Nat) : Int)] ∧ SqT K H t (worksV c r) ∧ TriOk c r k o
theorem Tri.tx {H H' : Hp} {v : V} (h : Tri K H v) (x : TExt H H') : Tri K H' v := by
  obtain ⟨u, t, c, r, k, o, e, h1, h2, h3⟩ := h
  exact ⟨u, t, c, r, k, o, e, x.t h1, x.t h2, h3⟩
theorem tri_mk (c r k o : Nat) (ok : TriOk c r k o) {tr : TA} {σ : L2.St} {H : Hp} {Q : List V → Hp → Prop} (q : ∀ v H', Same H H' → Tri K H' v → tr σ H' fun vs H2 => Q (v :: vs) H2) :
    tCons (tTup (tCons (tTup (tCons (tC (.int ((c : Nat) : Int))) (tCons (tC (.int ((r : Nat) : Int))) tNil))) (tCons (tC (.int ((k + 1 : Nat) : Int))) (tCons (tC (.int ((o : Nat) : Int))) tNil)))) tr σ H Q := by
  refine ⟨by show 2 ≤ sizeLine; decide, fun t nt => ?_⟩
  have s1 := same_new (o := .tup [V.int ((c : Nat) : Int), .int ((r : Nat) : Int)]) nt
  refine ⟨by show 3 ≤ sizeLine; decide, fun u nu => ?_⟩
  have s2 := same_new (o := .tup [V.ref t, .int ((k + 1 : Nat) : Int), .int ((o : Nat) : Int)]) nu
  exact q _ _ (s1.trans s2) ⟨u, t, c, r, k, o, rfl, sqt upd_same, sqt (s2 _ _ upd_same), ok⟩
theorem ok_law (T : Txt K mg) (R : Errs K mg) {f : Addr} {fd : FuncData} (F : FunD K "law" "law" (defArgs s_law) (defBody s_law) (defScope s_law) [] [] f fd) : FnOk P w K mg base CX0 65 f fd ["script"] (sp_law K) := by
  refine okF F sc_law (fun vs H Q E h => ?_) (fun cdv A outer s H vs Q E hr h => ?_)
  · obtain ⟨a, ns, rfl, _⟩ := h
    rfl
  · obtain ⟨sc, ns, rfl, hS, q⟩ := h
    refine ⟨_, (pss_cons (ps_set (i := 1) sc_law.nd rfl (Or.inr rfl) (pcall (c__law_town T) (hr.mono (by omega)) (pa_cons (pv 0) pa_nil)))
      (pss_cons (ps_asg (pcall (c__law_pick T) (hr.mono (by omega)) (pa_cons (pv 1) (pa_cons (pe_lst (pa_cons (pe_tup (pa_cons (pe_tup (pa_cons pe_int (pa_cons pe_int pa_nil))) (pa_cons pe_int (pa_cons pe_int pa_nil)))) (pa_cons (pe_tup (pa_cons (pe_tup (pa_cons pe_int (pa_cons pe_int pa_nil))) (pa_cons pe_int (pa_cons pe_int pa_nil)))) (pa_cons (pe_tup (pa_cons (pe_tup (pa_cons pe_int (pa_cons pe_int pa_nil))) (pa_cons pe_int (pa_cons pe_int pa_nil)))) (pa_cons (pe_tup (pa_cons (pe_tup (pa_cons pe_int (pa_cons pe_int pa_nil))) (pa_cons pe_int (pa_cons pe_int pa_nil)))) (pa_cons (pe_tup (pa_cons (pe_tup (pa_cons pe_int (pa_cons pe_int pa_nil))) (pa_cons pe_int (pa_cons pe_int pa_nil)))) (pa_cons (pe_tup (pa_cons (pe_tup (pa_cons pe_int (pa_cons pe_int pa_nil))) (pa_cons pe_int (pa_cons pe_int pa_nil)))) (pa_cons (pe_tup (pa_cons (pe_tup (pa_cons pe_int (pa_cons pe_int pa_nil))) (pa_cons pe_int (pa_cons pe_int pa_nil)))) pa_nil)))))))) pa_nil))) (pg_tup rfl (pgs_cons (pg_name (i := 2) sc_law.nd rfl (Or.inl rfl)) (pgs_cons (pg_name (i := 3) sc_law.nd rfl (Or.inl rfl)) (pgs_cons (pg_name (i := 4) sc_law.nd rfl (Or.inr rfl)) pgs_nil)))))
      (pss_cons (ps_set (i := 5) sc_law.nd rfl (Or.inl rfl) (pcall (c__law_land T) (hr.mono (by omega)) (pa_cons (pv 1) (pa_cons (pv 3) pa_nil))))
      (pss_cons (ps_set (i := 6) sc_law.nd rfl (Or.inl rfl) (pe_op (catA K) (pe_tup (pa_cons pe_non pa_nil)) (pe_callTy (tupOf K) rfl T.b_tuple (by decide +kernel) (pa_cons (pe_lc (own := [("k", 10)]) (g := gName 10) rfl sc_law.nd (pi_range1 rfl T.b_range (pa_cons (pe_op op_sub (pv 3) pe_int) pa_nil)) (blkOk_by (own := [("k", 10)]) (N := ["script", "town", "works_here", "count", "most_of", "land_here", "wants_here", "most_left", "due", "searched", "k"]) (sc := (defScope s_law)) (by decide +kernel)) (fun _ _ _ _ _ => pg_name (i := 10) sc_law.nd rfl (Or.inl rfl)) (fun _ _ _ _ _ => pts_nil) (fun _ _ _ _ _ => (pcall (c__law_pick T) (hr.mono (by omega)) (pa_cons (pv 1) (pa_cons (pe_lst (pa_cons pe_non (pa_cons pe_int (pa_cons (pe_op op_add pe_int (pcall (c__law_draw T) (hr.mono (by omega)) (pa_cons (pv 1) (pa_cons (pv 4) pa_nil)))) pa_nil)))) pa_nil))))) pa_nil))))
      (pss_cons (ps_set (i := 7) sc_law.nd rfl (Or.inl rfl) (pcall (c__law_draw T) (hr.mono (by omega)) (pa_cons (pv 1) (pa_cons (pe_op op_add (pe_ix (ixT K) (pv 2) pe_int (fun _ _ => rfl)) pe_int) pa_nil))))
      (pss_cons (ps_set (i := 8) sc_law.nd rfl (Or.inl rfl) (pcall (c__law_least T) (hr.mono (by omega)) (pa_cons (pv 5) (pa_cons (pv 2) (pa_cons (pv 6) (pa_cons (pv 7) pa_nil))))))
      (pss_cons (ps_if (pt_cmpR op_ne (pcallK (c_least T) (hr.mono (by omega)) pass0 (pa_cons (pv 5) (pa_cons (pv 2) (pa_cons (pv 6) pa_nil))) (pv 7)) (pv 8) (nomark _)) (pss_one (ps_ret pe_bl)) pss_nil)
      (pss_cons (ps_set (i := 9) sc_law.nd rfl (Or.inl rfl) (pcall (c__law_searched T) (hr.mono (by omega)) (pa_cons (pv 5) (pa_cons (pv 2) (pa_cons (pv 6) (pa_cons (pv 7) (pa_cons (pe_ifExp (pt_cmpR op_isN (pv 8) pe_non (nomark _)) pe_int (pe_callB (call_min2 rfl) rfl T.b_min (by decide +kernel) (pa_cons (pv 8) (pa_cons pe_int pa_nil)))) pa_nil)))))))
      (pss_cons (ps_if (PW.pt (pw_or (pt_cmpR op_eq (pv 9) pe_str (nomark _)) (pw_or1 (PW.pt (pw_and (pt_cmpR op_notN (pv 8) pe_non (nomark _)) (pw_and1 (pt_cmpR op_gt (pv 8) pe_int (nomark _)))))))) (pss_one (ps_ret (pe_or (pe_cmpR op_eq (pv 9) pe_str (nomark _)) (pe_one (pe_cmpR op_isN (pv 9) pe_non (nomark _)))))) pss_nil)
      (pss_one (ps_ret (pe_cmpR op_eq (pv 9) (pv 8) (nomark _))))))))))))), ?_⟩
    refine ⟨_, rfl, sc, ns, rfl, hS, fun t n H1 hT1 s1 => ?_⟩
    try dsimp only [gName]
    show tSeq (tAsg _ _) _ _ [some (.ref sc), some (.ref t), none, none, none, none, none, none, none, none, none] H1
    -- works, count, most
    refine asg_any (fun v H' => Town t n H' ∧ Tri K H' v) (fun Q' q' => ?_) (fun v H2 pp => ?_)
    · refine ⟨_, rfl, ?_⟩
      show tLst _ _ _ _
      show tCons (tTup _) _ _ _ _
      refine tri_mk (K := K) 1 3 2 2 (by decide) fun v1 Ha sa h1 => ?_
      refine tri_mk (K := K) 1 4 2 3 (by decide) fun v2 Hb sb h2 => ?_
      refine tri_mk (K := K) 1 2 2 2 (by decide) fun v3 Hc sc' h3 => ?_
      refine tri_mk (K := K) 2 3 1 2 (by decide) fun v4 Hd sd h4 => ?_
      refine tri_mk (K := K) 2 2 2 1 (by decide) fun v5 He se h5 => ?_
      refine tri_mk (K := K) 1 5 1 6 (by decide) fun v6 Hf sf h6 => ?_
      refine tri_mk (K := K) 2 3 2 1 (by decide) fun v7 Hg sg h7 => ?_
      refine ⟨by show 7 ≤ sizeLine; decide, fun l nl => ?_⟩
      have s6 := sf.trans sg
      have s5 := se.trans s6
      have s4 := sd.trans s5
      have s3 := sc'.trans s4
      have s2 := sb.trans s3
      have hTg := hT1.same (sa.trans s2)
      obtain ⟨lt, ln⟩ := hTg.fresh nl
      have sl := same_new (o := .lst [v1, v2, v3, v4, v5, v6, v7]) nl
      refine ⟨t, n, l, _, rfl, hTg.upd lt ln, upd_same, lt, ln, by show 1 ≤ 7; decide, by show 7 < 1000; decide, fun x H7 hx hT7 s7 => q' _ _ ⟨hT7, ?_⟩⟩
      have xl : TExt Hg H7 := (same_tx sl).trans (fun aa xs r => by
        have hTl : Town t n (upd Hg l (.lst [v1, v2, v3, v4, v5, v6, v7])) := hTg.upd lt ln
        rcases r with e | ⟨o, e⟩
        · have := hTl.not_t e (fun l z => nomatch z)
          exact .inl (s7 _ _ this.1 this.2 e)
        · have := hTl.not_t e (fun l z => nomatch z)
          exact .inr ⟨o, s7 _ _ this.1 this.2 e⟩)
      simp only [List.mem_cons, List.mem_nil_iff, or_false] at hx
      rcases hx with rfl | rfl | rfl | rfl | rfl | rfl | rfl
      · exact (h1.tx (same_tx s2)).tx xl
      · exact (h2.tx (same_tx s3)).tx xl
      · exact (h3.tx (same_tx s4)).tx xl
      · exact (h4.tx (same_tx s5)).tx xl
      · exact (h5.tx (same_tx s6)).tx xl
      · exact (h6.tx (same_tx sg)).tx xl
      · exact h7.tx xl
    obtain ⟨hT2, u, b, carts, room, k, mo, rfl, hu, hb2, c1, c2, r2, r5, k1, k2, h10, o1, o6⟩ := pp
    clear hT1 s1 hS
    refine ⟨u, _, rfl, hu, rfl, _, _, rfl, _, _, rfl, _, _, rfl, rfl, ?_⟩
    try dsimp only [gName]
    show tSeq (tAsg _ _) _ _ [some (.ref sc), some (.ref t), some (.ref b), some (.int ((k + 1 : Nat) : Int)), some (.int ((mo : Nat) : Int)), none, none, none, none, none, none] H2
    -- land
    refine ⟨_, rfl, _, rfl, t, n, k, rfl, hT2, by omega, fun a L H3 hl wf ha hT3 s3 => ?_⟩
    have hb3 := hT2.t s3 hb2
    clear hT2 s3 hb2 hu
    try dsimp only [gName]
    show tSeq (tAsg _ _) _ _ [some (.ref sc), some (.ref t), some (.ref b), some (.int ((k + 1 : Nat) : Int)), some (.int ((mo : Nat) : Int)), some (.ref a), none, none, none, none, none] H3
    -- wants
    refine asg_any (fun v H' => ∃ d W, v = .ref d ∧ Town t n H' ∧ TSame t n H3 H' ∧ SqT K H' d (wantsV (none :: W)) ∧ W.length = k ∧ ∀ x, some x ∈ W → x ≤ 6) (fun Q' q' => ?_) (fun v H4 pp => ?_)
    · refine ⟨by show 1 ≤ sizeLine; decide, fun t1 n1 => ?_⟩
      have e1 := same_new (o := .tup [V.non]) n1
      have h1 : (upd H3 t1 (.tup [V.non])) t1 = some (.tup [V.non]) := upd_same
      have hT4 := hT3.same e1
      generalize upd H3 t1 (.tup [V.non]) = H4 at e1 h1 hT4
      refine ⟨_, rfl, _, _, rfl, rfl, _, rfl, by omega, by omega, fun D hD => ?_⟩
      rw [show (((k + 1 : Nat) : Int) - 1).toNat = k by omega]
      obtain ⟨Dt, Dn⟩ := hT4.fresh hD
      refine lc_it walk_range (g := gName 10) (fun i H' => ∃ W, Town t n H' ∧ TSame t n H4 H' ∧ H' D = some (.lst (wantsV W)) ∧ W.length = i ∧ ∀ x, some x ∈ W → x ≤ 6)
        ⟨[], hT4.upd Dt Dn, tsame_mut (TSame.refl _) hD, upd_same, rfl, fun x hx => nomatch hx⟩ (fun _ _ _ _ => trivial) (fun i x H5 H6 hi pp y => ?_) (fun H5 pp => ?_)
      · obtain ⟨W, hT5, s5, hDW, hWl, hW6⟩ := pp
        obtain ⟨rfl, rfl⟩ := y
        refine ⟨rfl, ?_⟩
        unfold tYes
        dsimp only
        rw [if_pos rfl]
        refine ⟨_, rfl, _, rfl, _, rfl, t, n, mo, rfl, hT5, by omega, by omega, fun r H7 hr7 hT7 s7 => ?_⟩
        refine ⟨_, _, rfl, rfl, by show 3 ≤ sizeLine; decide, fun l nl => ?_⟩
        obtain ⟨lt, ln⟩ := hT7.fresh nl
        refine ⟨t, n, l, _, rfl, hT7.upd lt ln, upd_same, lt, ln, by show 1 ≤ 3; decide, by show 3 < 1000; decide, fun x H8 hx hT8 s8 => ?_⟩
        have s58 := s7.trans ((tsame_of (same_new nl)).trans s8)
        have hD8 := s58 _ _ Dt Dn hDW
        refine ⟨_, hD8, Nat.lt_of_lt_of_le (show (wantsV W).length < 1001 by rw [wantsV_len]; omega) (by decide), ?_⟩
        obtain ⟨o, ho, rfl⟩ : ∃ o : Option Nat, (∀ j, o = some j → j ≤ 6) ∧ x = optV o := by
          simp only [List.mem_cons, List.mem_nil_iff, or_false] at hx
          rcases hx with rfl | rfl | rfl
          · exact ⟨none, fun j z => (nomatch z), rfl⟩
          · exact ⟨some 0, fun j z => by cases z; omega, rfl⟩
          · refine ⟨some (1 + r), fun j z => by cases z; omega, ?_⟩
            show V.int (1 + ((r : Nat) : Int)) = V.int ((1 + r : Nat) : Int)
            rw [show ((1 + r : Nat) : Int) = 1 + ((r : Nat) : Int) by omega]
        refine ⟨W ++ [o], hT8.upd Dt Dn, tsame_mut (s5.trans s58) hD, ?_, by rw [List.length_append, hWl]; rfl, fun j hj => ?_⟩
        · rw [upd_same]
          simp [wantsV]
        · rcases List.mem_append.mp hj with hj | hj
          · exact hW6 j hj
          · exact ho j (List.mem_singleton.mp hj).symm
      · obtain ⟨W, hT5, s5, hDW, hWl, hW6⟩ := pp
        refine ⟨D, _, rfl, .inl ⟨sql hDW, fun w2 nw2 => ?_⟩⟩
        have s6 := same_new (o := .tup (wantsV W)) nw2
        have h15 := hT4.t (K := K) s5 (sqt h1)
        refine catA_any (same_t s6 h15) (sqt upd_same) (Nat.le_trans (show 1 + (wantsV W).length ≤ 100 by rw [wantsV_len]; omega) (by decide)) fun d H7 s7 hd => ?_
        exact q' _ _ ⟨d, W, rfl, (hT5.same s6).same s7, (tsame_of e1).trans (s5.trans (tsame_of (s6.trans s7))), hd, hWl, hW6⟩
    obtain ⟨d, W, rfl, hT4, s4, hd4, hWl, hW6⟩ := pp
    have ha4 := hT3.t s4 ha
    have hb4 := hT3.t s4 hb3
    clear hT3 s4 ha hb3
    try dsimp only [gName]
    show tSeq (tAsg _ _) _ _ [some (.ref sc), some (.ref t), some (.ref b), some (.int ((k + 1 : Nat) : Int)), some (.int ((mo : Nat) : Int)), some (.ref a), some (.ref d), none, none, none, none] H4
    -- left
    refine ⟨_, rfl, _, rfl, b, _, 0, _, rfl, rfl, hb4, atI_nat (j := 0) rfl, _, _, rfl, rfl, t, n, carts + 1, rfl, hT4, by omega, by omega, fun left H5 hlf hT5 s5 => ?_⟩
    have ha5 := hT4.t s5 ha4
    have hb5 := hT4.t s5 hb4
    have hd5 := hT4.t s5 hd4
    clear hT4 s5 ha4 hb4 hd4
    have hC : CaseAt K H5 a b d ⟨L, room, none :: W, left⟩ carts := by
      refine ⟨ha5, hb5, hd5, by show L.length < 30; omega, wf, c1, by omega, r2, by show room ≤ 21; omega, by show (none :: W).length = L.length + 1; rw [List.length_cons, hWl, hl], fun i x hx => ?_, by show left ≤ carts; omega⟩
      have hx : (none :: W)[i]? = some (some x) := hx
      have := List.mem_of_getElem? hx
      rcases List.mem_cons.mp this with z | z
      · cases z
      · have := hW6 x z
        omega
    have hW0 : (Case.mk L room (none :: W) left).W.getD 0 none = none := rfl
    have hLk : (Case.mk L room (none :: W) left).L.length = k := hl
    have hcl : (Case.mk L room (none :: W) left).left = left := rfl
    have hcr : (Case.mk L room (none :: W) left).room = room := rfl
    try dsimp only [gName]
    show tSeq (tAsg _ _) _ _ [some (.ref sc), some (.ref t), some (.ref b), some (.int ((k + 1 : Nat) : Int)), some (.int ((mo : Nat) : Int)), some (.ref a), some (.ref d), some (.int (((Case.mk L room (none :: W) left).left : Nat) : Int)), none, none, none] H5
    generalize Case.mk L room (none :: W) left = c at hC hW0 hLk hcl hcr
    clear ha5 hb5 hd5 hT5
    -- due
    refine ⟨_, rfl, _, rfl, _, rfl, _, rfl, a, b, d, c, carts, rfl, hC, fun H6 s6 => ?_⟩
    have hC6 := hC.same s6
    clear hC s6
    have h20 : c.room ≤ 20 := by omega
    try dsimp only [gName]
    show tSeq (tIfS _ _ _) _ _ [some (.ref sc), some (.ref t), some (.ref b), some (.int ((k + 1 : Nat) : Int)), some (.int ((mo : Nat) : Int)), some (.ref a), some (.ref d), some (.int ((c.left : Nat) : Int)), some (oiV (least c)), none, none] H6
    refine if_no (fun H' => Same H6 H') (fun Q' q' => ?_) (fun H7 s7 => ?_)
    · refine ⟨_, rfl, _, rfl, _, rfl, _, rfl, rfl, rfl, a, b, d, c, carts, rfl, hC6, h20, fun H7 s7 => ?_⟩
      exact ⟨_, rfl, scal_oi _, false, congrArg V.bl (by simp), q' _ s7⟩
    have hC7 := hC6.same s7
    clear hC6 s7
    -- searched
    have hnat : ∀ v, least c = some v → ∃ m : Nat, v = ((m : Nat) : Int) := fun v hv => by
      obtain ⟨m, _, _, _, e⟩ := least_found hC7.wf hC7.n hC7.r2 hC7.c1 hC7.lf hC7.wl hW0 hv
      exact ⟨m, e⟩
    refine asg_any (fun v H' => v = .str "many" ∨ (∃ m : Nat, m ≤ 8 ∧ v = .int ((m : Nat) : Int) ∧ least c = some ((m : Nat) : Int)) ∨ (v = .non ∧ (least c = none ∨ ∃ z, least c = some z ∧ 8 < z))) (fun Q' q' => ?_) (fun v H8 pp => ?_)
    · refine ⟨_, rfl, _, rfl, _, rfl, _, rfl, ?_⟩
      have go : ∀ bound : Nat, bound ≤ 8 → (∀ v, least c = some v → ((bound : Nat) : Int) < v → 8 < v) → sp_law_searched K [.ref a, .ref b, .ref d, .int ((c.left : Nat) : Int), .int ((bound : Nat) : Int)] H7 Q' (fun _ _ _ => False) := fun bound hb hv =>
        ⟨a, b, d, c, carts, bound, rfl, hC7, hW0, by rw [hLk]; exact h10, hb, fun H' _ => q' _ _ (.inl rfl), fun m hm hl H' _ => q' _ _ (.inr (.inl ⟨m, by omega, rfl, hl⟩)), fun hz H' _ => q' _ _ (.inr (.inr ⟨rfl, by
          cases hl : least c with
          | none => exact .inl rfl
          | some z => exact .inr ⟨z, rfl, hv z hl (hz z hl)⟩⟩))⟩
      cases hl : least c with
      | none => exact ⟨_, rfl, rfl, true, rfl, iteT (go 6 (by decide) (fun v hv => by rw [hl] at hv; cases hv))⟩
      | some v =>
        obtain ⟨m, rfl⟩ := hnat v hl
        refine ⟨_, rfl, rfl, false, rfl, iteF ⟨_, rfl, _, _, rfl, ?_⟩⟩
        have e : (if (8 : Int) < ((m : Nat) : Int) then (8 : Int) else ((m : Nat) : Int)) = ((min m 8 : Nat) : Int) := by split <;> omega
        rw [e]
        refine go (min m 8) (by omega) (fun v hv h => ?_)
        rw [hl] at hv
        have hv := Option.some.inj hv
        omega
    try dsimp only [gName]
    show tSeq (tIfS _ _ _) _ _ [some (.ref sc), some (.ref t), some (.ref b), some (.int ((k + 1 : Nat) : Int)), some (.int ((mo : Nat) : Int)), some (.ref a), some (.ref d), some (.int ((c.left : Nat) : Int)), some (oiV (least c)), some v, none] H8
    rcases pp with rfl | ⟨m, hm, rfl, hl⟩ | ⟨rfl, hl | ⟨z, hl, hz⟩⟩
    · exact ⟨_, rfl, rfl, true, congrArg V.bl (decide_eq_true rfl), iteT ⟨_, rfl, rfl, true, congrArg V.bl (decide_eq_true rfl), iteT (q _)⟩⟩
    · rw [hl]
      refine if_no (fun H' => H' = H8) (fun Q' q' => ?_) (fun H9 _ => ?_)
      · exact ⟨_, rfl, rfl, false, rfl, iteF ⟨_, rfl, rfl, true, rfl, iteT ⟨_, rfl, _, _, rfl, rfl, false, congrArg V.bl (decide_eq_false (by omega)), q' _ rfl⟩⟩⟩
      · refine ⟨_, rfl, _, rfl, rfl, ?_⟩
        rw [show decide (V.int ((m : Nat) : Int) = oiV (some ((m : Nat) : Int))) = true from decide_eq_true rfl]
        exact q _
    · rw [hl]
      refine if_no (fun H' => H' = H8) (fun Q' q' => ?_) (fun H9 _ => ?_)
      · exact ⟨_, rfl, rfl, false, rfl, iteF ⟨_, rfl, rfl, false, rfl, iteF (q' _ rfl)⟩⟩
      · exact ⟨_, rfl, _, rfl, rfl, q _⟩
    · rw [hl]
      refine ⟨_, rfl, rfl, false, rfl, iteF ⟨_, rfl, rfl, true, rfl, iteT ⟨_, rfl, _, _, rfl, rfl, true, congrArg V.bl (decide_eq_true hz), iteT ?_⟩⟩⟩
      exact ⟨_, rfl, rfl, false, rfl, iteF ⟨_, rfl, rfl, q _⟩⟩
end
end Oa
namespace Oa
open PySem PySem.Spec PyProof.Rows L2
theorem txtR {K : PySem.W.Frag} {h : Heap} {mg : Str → Option Value} (X : K.In h) (G : h.Ns mainGlobals mg) (c : He.SaysD hfa hfn K) : Txt K mg where
  d_is_whole := by obtain ⟨fd, F⟩ := c.def_ 0 (d := d_is_whole) rfl; exact ⟨_, fd, He.glo_ok X G (c.fact 4 (f := .glo "is_whole") rfl), F⟩
  d_is_land := by obtain ⟨fd, F⟩ := c.def_ 1 (d := d_is_land) rfl; exact ⟨_, fd, He.glo_ok X G (c.fact 5 (f := .glo "is_land") rfl), F⟩
  d_is_works := by obtain ⟨fd, F⟩ := c.def_ 2 (d := d_is_works) rfl; exact ⟨_, fd, He.glo_ok X G (c.fact 6 (f := .glo "is_works") rfl), F⟩
  d_is_wants := by obtain ⟨fd, F⟩ := c.def_ 3 (d := d_is_wants) rfl; exact ⟨_, fd, He.glo_ok X G (c.fact 7 (f := .glo "is_wants") rfl), F⟩
  d_look_land := by obtain ⟨fd, F⟩ := c.def_ 4 (d := d_look_land) rfl; exact ⟨_, fd, He.glo_ok X G (c.fact 8 (f := .glo "look_land") rfl), F⟩
  d_look_works := by obtain ⟨fd, F⟩ := c.def_ 5 (d := d_look_works) rfl; exact ⟨_, fd, He.glo_ok X G (c.fact 9 (f := .glo "look_works") rfl), F⟩
  d_look_case := by obtain ⟨fd, F⟩ := c.def_ 6 (d := d_look_case) rfl; exact ⟨_, fd, He.glo_ok X G (c.fact 10 (f := .glo "look_case") rfl), F⟩
  d_beyond := by obtain ⟨fd, F⟩ := c.def_ 7 (d := d_beyond) rfl; exact ⟨_, fd, He.glo_ok X G (c.fact 11 (f := .glo "beyond") rfl), F⟩
  d_going_out := by obtain ⟨fd, F⟩ := c.def_ 8 (d := d_going_out) rfl; exact ⟨_, fd, He.glo_ok X G (c.fact 12 (f := .glo "going_out") rfl), F⟩
  d_best_parting := by obtain ⟨fd, F⟩ := c.def_ 9 (d := d_best_parting) rfl; exact ⟨_, fd, He.glo_ok X G (c.fact 13 (f := .glo "best_parting") rfl), F⟩
  d_own_need := by obtain ⟨fd, F⟩ := c.def_ 10 (d := d_own_need) rfl; exact ⟨_, fd, He.glo_ok X G (c.fact 14 (f := .glo "own_need") rfl), F⟩
  d_is_called := by obtain ⟨fd, F⟩ := c.def_ 11 (d := d_is_called) rfl; exact ⟨_, fd, He.glo_ok X G (c.fact 15 (f := .glo "is_called") rfl), F⟩
  d_tables_of := by obtain ⟨fd, F⟩ := c.def_ 12 (d := d_tables_of) rfl; exact ⟨_, fd, He.glo_ok X G (c.fact 16 (f := .glo "tables_of") rfl), F⟩
  d_taken_for := by obtain ⟨fd, F⟩ := c.def_ 13 (d := d_taken_for) rfl; exact ⟨_, fd, He.glo_ok X G (c.fact 17 (f := .glo "taken_for") rfl), F⟩
  d_best_left := by obtain ⟨fd, F⟩ := c.def_ 14 (d := d_best_left) rfl; exact ⟨_, fd, He.glo_ok X G (c.fact 18 (f := .glo "best_left") rfl), F⟩
  d_least_of := by obtain ⟨fd, F⟩ := c.def_ 15 (d := d_least_of) rfl; exact ⟨_, fd, He.glo_ok X G (c.fact 19 (f := .glo "least_of") rfl), F⟩
  d_least := by obtain ⟨fd, F⟩ := c.def_ 16 (d := d_least) rfl; exact ⟨_, fd, He.glo_ok X G (c.fact 20 (f := .glo "least") rfl), F⟩
  d__law_town := by obtain ⟨fd, F⟩ := c.def_ 17 (d := d__law_town) rfl; exact ⟨_, fd, He.glo_ok X G (c.fact 21 (f := .glo "_law_town") rfl), F⟩
  d__law_draw := by obtain ⟨fd, F⟩ := c.def_ 18 (d := d__law_draw) rfl; exact ⟨_, fd, He.glo_ok X G (c.fact 22 (f := .glo "_law_draw") rfl), F⟩
  d__law_pick := by obtain ⟨fd, F⟩ := c.def_ 19 (d := d__law_pick) rfl; exact ⟨_, fd, He.glo_ok X G (c.fact 23 (f := .glo "_law_pick") rfl), F⟩
  d__law_land := by obtain ⟨fd, F⟩ := c.def_ 20 (d := d__law_land) rfl; exact ⟨_, fd, He.glo_ok X G (c.fact 24 (f := .glo "_law_land") rfl), F⟩
  d__law_after := by obtain ⟨fd, F⟩ := c.def_ 21 (d := d__law_after) rfl; exact ⟨_, fd, He.glo_ok X G (c.fact 25 (f := .glo "_law_after") rfl), F⟩
  d__law_is_wanted := by obtain ⟨fd, F⟩ := c.def_ 22 (d := d__law_is_wanted) rfl; exact ⟨_, fd, He.glo_ok X G (c.fact 26 (f := .glo "_law_is_wanted") rfl), F⟩
  d__law_best := by obtain ⟨fd, F⟩ := c.def_ 23 (d := d__law_best) rfl; exact ⟨_, fd, He.glo_ok X G (c.fact 27 (f := .glo "_law_best") rfl), F⟩
  d__law_table := by obtain ⟨fd, F⟩ := c.def_ 24 (d := d__law_table) rfl; exact ⟨_, fd, He.glo_ok X G (c.fact 28 (f := .glo "_law_table") rfl), F⟩
  d__law_out := by obtain ⟨fd, F⟩ := c.def_ 25 (d := d__law_out) rfl; exact ⟨_, fd, He.glo_ok X G (c.fact 29 (f := .glo "_law_out") rfl), F⟩
  d__law_least := by obtain ⟨fd, F⟩ := c.def_ 26 (d := d__law_least) rfl; exact ⟨_, fd, He.glo_ok X G (c.fact 30 (f := .glo "_law_least") rfl), F⟩
  d__law_moves := by obtain ⟨fd, F⟩ := c.def_ 27 (d := d__law_moves) rfl; exact ⟨_, fd, He.glo_ok X G (c.fact 31 (f := .glo "_law_moves") rfl), F⟩
  d__law_good := by obtain ⟨fd, F⟩ := c.def_ 28 (d := d__law_good) rfl; exact ⟨_, fd, He.glo_ok X G (c.fact 32 (f := .glo "_law_good") rfl), F⟩
  d__law_searched := by obtain ⟨fd, F⟩ := c.def_ 29 (d := d__law_searched) rfl; exact ⟨_, fd, He.glo_ok X G (c.fact 33 (f := .glo "_law_searched") rfl), F⟩
  d_law := by obtain ⟨fd, F⟩ := c.def_ 30 (d := d_law) rfl; exact ⟨_, fd, He.glo_ok X G (c.fact 34 (f := .glo "law") rfl), F⟩
  b_all := He.free_ok X G (c.fact 35 (f := .free "all") rfl)
  b_bool := He.free_ok X G (c.fact 36 (f := .free "bool") rfl)
  b_int := He.free_ok X G (c.fact 37 (f := .free "int") rfl)
  b_isinstance := He.free_ok X G (c.fact 38 (f := .free "isinstance") rfl)
  b_len := He.free_ok X G (c.fact 39 (f := .free "len") rfl)
  b_list := He.free_ok X G (c.fact 40 (f := .free "list") rfl)
  b_max := He.free_ok X G (c.fact 41 (f := .free "max") rfl)
  b_min := He.free_ok X G (c.fact 42 (f := .free "min") rfl)
  b_range := He.free_ok X G (c.fact 43 (f := .free "range") rfl)
  b_sorted := He.free_ok X G (c.fact 44 (f := .free "sorted") rfl)
  b_tuple := He.free_ok X G (c.fact 45 (f := .free "tuple") rfl)
  i_MOST_PLACES := He.int_ok X G (c.fact 46 (f := .int "MOST_PLACES" 30) rfl)
  i_MOST_CARTS := He.int_ok X G (c.fact 47 (f := .int "MOST_CARTS" 6) rfl)
  i_MOST_ROOM := He.int_ok X G (c.fact 48 (f := .int "MOST_ROOM" 20) rfl)
  i_MOST_WANT := He.int_ok X G (c.fact 49 (f := .int "MOST_WANT" 999) rfl)
theorem errsR {K : PySem.W.Frag} {h : Heap} {mg : Str → Option Value} (X : K.In h) (G : h.Ns mainGlobals mg) (c : He.SaysD hfa hfn K) (m : errsB K = true) : Errs K mg := by
  refine errs_of m (fun x hx => ?_) (He.glo_ok X G (c.fact 0 (f := .glo "OatError") rfl))
  unfold errN at hx
  simp only [List.mem_cons, List.mem_nil_iff, or_false] at hx
  rcases hx with rfl | rfl | rfl
  · exact He.glo_ok X G (c.fact 1 (f := .glo "BadLand") rfl)
  · exact He.glo_ok X G (c.fact 2 (f := .glo "BadWorks") rfl)
  · exact He.glo_ok X G (c.fact 3 (f := .glo "BadWants") rfl)
theorem factsR {P : Program} {w : World} {K : PySem.W.Frag} {h : Heap} {mg : Str → Option Value} {f : Addr} (X : K.In h) (G : h.Ns mainGlobals mg) (hfa' : mg ("law" : Str) = some (.ref f)) (c : He.SaysD hfa hfn K) (m : errsB K = true) :
    ∃ fd : FuncData, (∀ (s : Shared) (v : Value), BindsTo s fd ⟨[v], []⟩ [("script", v)]) ∧ ∀ base : Heap, K.In base → base.Ns mainGlobals mg → FnOk P w K mg base CX0 65 f fd ["script"] (sp_law K) := by
  obtain ⟨fd, F⟩ := c.def_ 30 (d := d_law) rfl
  have T := txtR X G c
  have e := hfa'.symm.trans (He.glo_ok X G (c.fact 34 (f := .glo "law") rfl))
  cases e
  have b := FunD.bindsA (ps := ["script"]) F fun _ _ _ _ _ _ us hl => match us, hl with | [_], _ => rfl
  exact ⟨fd, fun s v => b s [v] rfl, fun base _ _ => ok_law T (errsR X G c m) F⟩
end Oa

open PySem PySem.W PySem.Calls PyProof.Rows
theorem PySem.Challenge.cw_oatroads_k02_whole_searched_holds : PySem.Challenge.rw_oatroads_k02_whole_searched.Holds := by
  w_on; o_law
  refine HandSHeadRun.head_any (r := Oa.rowR) (q := view Oa.rowR.prog [42]) (H := Oa.hkR) (ob := Oa.obR) (M := 6000) (loose := Oa.hloose) (d := HandSHeadRun.topDef Oa.rowR.prog 42) (kwd := []) Oa.obR_eq
    (by kernel_rfl) (fun s => by kernel_rfl) Oa.runR (by kernel_rfl) (by kernel_rfl) (by kernel_rfl) (by rfl) (by first | assumption | decide +kernel) (by decide +kernel) ⟨rfl, rfl, rfl, rfl, rfl, by decide +kernel⟩ ?hw ?hc
  case hw => w_witness2
  case hc =>
    refine L2.walk_ofE (l := PySem.Challenge.rw_oatroads_k02_whole_searched) (n := 63) (k := 65) (x := "script") (CX := L2.CX0) rfl (by decide) (by kernel_rfl) ⟨rfl, by decide, by decide⟩ ?F (fun _ _ _ _ z => z)
    intro w mg fa h Y G hmg0
    obtain ⟨K, KX, c⟩ := Y
    have hmg : mg ("law" : PySem.Str) = some (.ref fa) := by
      have e : (HandSHeadRun.topDef Oa.rowR.prog 42).name = ("law" : PySem.Str) := by kernel_rfl
      rw [← e]
      exact hmg0
    obtain ⟨fd, hb, hF⟩ := Oa.factsR (P := (PySem.Challenge.rw_oatroads_k02_whole_searched).prog) (w := w) KX G hmg c.t.d c.more
    exact ⟨K, fd, Oa.sp_law K, KX, hb, fun H a ns hl _ hS => ⟨a, ns, rfl, hS, fun _ => rfl⟩, hF⟩
