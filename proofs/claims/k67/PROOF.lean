import PyProof.Rows.All
import Wide.All
import OpenK.AllK
import KE.KStateDown
import Lean
import HandS.Conv
import HandS.Deep
import HandS.Defaults
import HandS.Flow
import HandS.ForMost
import HandS.Head0
import HandS.Head1
import HandS.Head2
import HandS.HeadEnd
import HandS.HeadHook1
import HandS.HeadHook2
import HandS.IsInst
import HandS.More
import HandS.Rev
import HandS.SortInts
import HandS.Style
import HandS.TupAny
import HandS.TupMul
import HandS.Wide
import HandS.Zip
import Wide.FinOn
import PySem.Challenge.RW_cardstold_k67_whole_clocks_counted
set_option Elab.async false
set_option linter.all false
set_option maxRecDepth 100000
set_option autoImplicit false
set_option maxHeartbeats 4000000
/-! Vv, part 1: data, how data lie in the abstract heap, the state of slots, results. -/
namespace Vv
open PySem PySem.Spec PyProof.Rows L2

/-! ### data that hold no list -/
mutual
def im : PyData → Bool
  | .none => true
  | .bool _ => true
  | .int _ => true
  | .str _ => true
  | .tuple xs => imA xs
  | .list _ => false
  | .dict _ => false
def imA : List PyData → Bool
  | [] => true
  | x :: xs => im x && imA xs
end
def im1 : PyData → Bool
  | .list xs => imA xs
  | d => im d
theorem im1_of {d : PyData} (h : im d = true) : im1 d = true := by
  cases d <;> first | exact h | (rw [im] at h; cases h)
inductive R where
  | d (x : PyData)
  | box
def imR : R → Bool
  | .d x => im x
  | .box => true
def frOf (nt : Bool) (d : PyData) : Bool := if nt then im1 d else im d

/-! ### tuples stay -/
structure Tt (H H' : Hp) : Prop where
  tup : ∀ a xs, H a = some (.tup xs) → H' a = some (.tup xs)
  frz : ∀ a o u, H a = some (.frz o u) → H' a = some (.frz o u)
theorem Tt.refl (H : Hp) : Tt H H := ⟨fun _ _ h => h, fun _ _ _ h => h⟩
theorem Tt.trans {H H1 H2 : Hp} (a : Tt H H1) (b : Tt H1 H2) : Tt H H2 := ⟨fun c xs h => b.tup c xs (a.tup c xs h), fun c o u h => b.frz c o u (a.frz c o u h)⟩
theorem Tt.same {H H' : Hp} (s : Same H H') : Tt H H' := ⟨fun a xs h => s a _ h, fun a o u h => s a _ h⟩
theorem Tt.sq {K : PySem.W.Frag} {H H' : Hp} (t : Tt H H') {a : Addr} {xs : List V} (h : SqT K H a xs) : SqT K H' a xs := by
  rcases h with (h | ⟨o, h⟩) | h
  · exact .inl (.inl (t.tup _ _ h))
  · exact .inl (.inr ⟨o, t.frz _ _ _ h⟩)
  · exact .inr h
theorem same_upd {H : Hp} {p : Addr} {o : HO} (h : H p = none) : Same H (upd H p o) := fun b u q => by rw [upd_ne (ne_of_none q h)]; exact q
theorem same_trk {H H' : Hp} (s : Same H H') {a : Addr} (h : H' a = none) : H a = none := s.free h

/-! ### how a value lies: F the lists within -/
mutual
inductive Rp (K : PySem.W.Frag) (H : Hp) : V → PyData → List Addr → Prop
  | non : Rp K H .non .none []
  | bl (b : Bool) : Rp K H (.bl b) (.bool b) []
  | int (i : Int) : Rp K H (.int i) (.int i) []
  | str (x : Str) : Rp K H (.str x) (.str x) []
  | tup {a : Addr} {xs : List V} {ds : List PyData} {F : List Addr} : SqT K H a xs → RpA K H xs ds F → Rp K H (.ref a) (.tuple ds) F
  | lst {a : Addr} {xs : List V} {ds : List PyData} {F : List Addr} : H a = some (.lst xs) → RpA K H xs ds F → Rp K H (.ref a) (.list ds) (a :: F)
inductive RpA (K : PySem.W.Frag) (H : Hp) : List V → List PyData → List Addr → Prop
  | nil : RpA K H [] [] []
  | cons {v : V} {vs : List V} {d : PyData} {ds : List PyData} {F G : List Addr} : Rp K H v d F → RpA K H vs ds G → RpA K H (v :: vs) (d :: ds) (F ++ G)
end
section
variable {K : PySem.W.Frag} {H H' : Hp}
mutual
theorem Rp.move (t : Tt H H') : ∀ (d : PyData) (v : V) (F : List Addr), Rp K H v d F → (∀ a ∈ F, ∀ o, H a = some o → H' a = some o) → Rp K H' v d F
  | .none, v, F, h, k => by cases h; exact .non
  | .bool b, v, F, h, k => by cases h; exact .bl b
  | .int i, v, F, h, k => by cases h; exact .int i
  | .str x, v, F, h, k => by cases h; exact .str x
  | .tuple ds, v, F, h, k => by
    cases h with
    | tup q r => exact .tup (t.sq q) (RpA.move t ds _ _ r k)
  | .list ds, v, F, h, k => by
    cases h with
    | lst q r => exact .lst (k _ List.mem_cons_self _ q) (RpA.move t ds _ _ r fun a ha => k a (List.mem_cons_of_mem _ ha))
  | .dict _, v, F, h, k => by cases h
theorem RpA.move (t : Tt H H') : ∀ (ds : List PyData) (vs : List V) (F : List Addr), RpA K H vs ds F → (∀ a ∈ F, ∀ o, H a = some o → H' a = some o) → RpA K H' vs ds F
  | [], vs, F, h, k => by cases h; exact .nil
  | d :: ds, vs, F, h, k => by
    cases h with
    | cons r s => exact .cons (Rp.move t d _ _ r fun a ha => k a (List.mem_append_left _ ha)) (RpA.move t ds _ _ s fun a ha => k a (List.mem_append_right _ ha))
end
mutual
theorem Rp.trk : ∀ (d : PyData) (v : V) (F : List Addr), Rp K H v d F → ∀ a ∈ F, ∃ xs, H a = some (.lst xs)
  | .none, v, F, h, a, ha => by cases h; cases ha
  | .bool b, v, F, h, a, ha => by cases h; cases ha
  | .int i, v, F, h, a, ha => by cases h; cases ha
  | .str x, v, F, h, a, ha => by cases h; cases ha
  | .tuple ds, v, F, h, a, ha => by
    cases h with
    | tup q r => exact RpA.trk ds _ _ r a ha
  | .list ds, v, F, h, a, ha => by
    cases h with
    | lst q r =>
      rcases List.mem_cons.mp ha with e | ha
      · subst e; exact ⟨_, q⟩
      · exact RpA.trk ds _ _ r a ha
  | .dict _, v, F, h, a, ha => by cases h
theorem RpA.trk : ∀ (ds : List PyData) (vs : List V) (F : List Addr), RpA K H vs ds F → ∀ a ∈ F, ∃ xs, H a = some (.lst xs)
  | [], vs, F, h, a, ha => by cases h; cases ha
  | d :: ds, vs, F, h, a, ha => by
    cases h with
    | cons r s =>
      rcases List.mem_append.mp ha with ha | ha
      · exact Rp.trk d _ _ r a ha
      · exact RpA.trk ds _ _ s a ha
end
mutual
theorem Rp.im : ∀ (d : PyData) (v : V) (F : List Addr), Rp K H v d F → im d = true → F = []
  | .none, v, F, h, k => by cases h; rfl
  | .bool b, v, F, h, k => by cases h; rfl
  | .int i, v, F, h, k => by cases h; rfl
  | .str x, v, F, h, k => by cases h; rfl
  | .tuple ds, v, F, h, k => by
    cases h with
    | tup q r => exact RpA.im ds _ _ r (by rw [Vv.im] at k; exact k)
  | .list ds, v, F, h, k => by rw [Vv.im] at k; cases k
  | .dict _, v, F, h, k => by cases h
theorem RpA.im : ∀ (ds : List PyData) (vs : List V) (F : List Addr), RpA K H vs ds F → imA ds = true → F = []
  | [], vs, F, h, k => by cases h; rfl
  | d :: ds, vs, F, h, k => by
    cases h with
    | cons r s =>
      rw [imA, Bool.and_eq_true] at k
      rw [Rp.im d _ _ r k.1, RpA.im ds _ _ s k.2]; rfl
end
mutual
theorem Rp.dp : ∀ (d : PyData) (v : V) (F : List Addr), Rp K H v d F → Dp K H v d
  | .none, v, F, h => by cases h; exact .non
  | .bool b, v, F, h => by cases h; exact .bl b
  | .int i, v, F, h => by cases h; exact .int i
  | .str x, v, F, h => by cases h; exact .str x
  | .tuple ds, v, F, h => by
    cases h with
    | tup q r => exact .tup q (RpA.dp ds _ _ r)
  | .list ds, v, F, h => by
    cases h with
    | lst q r => exact .lst (SqL.of q) (RpA.dp ds _ _ r)
  | .dict _, v, F, h => by cases h
theorem RpA.dp : ∀ (ds : List PyData) (vs : List V) (F : List Addr), RpA K H vs ds F → DpAll K H vs ds
  | [], vs, F, h => by cases h; exact .nil
  | d :: ds, vs, F, h => by
    cases h with
    | cons r s => exact .cons (Rp.dp d _ _ r) (RpA.dp ds _ _ s)
end
theorem RpA.length : ∀ {ds : List PyData} {vs : List V} {F : List Addr}, RpA K H vs ds F → vs.length = ds.length
  | [], _, _, h => by cases h; rfl
  | d :: ds, _, _, h => by
    cases h with
    | cons r s => rw [List.length_cons, List.length_cons, s.length]
theorem RpA.get : ∀ {ds : List PyData} {vs : List V} {F : List Addr} {k : Nat} {d : PyData}, RpA K H vs ds F → ds[k]? = some d → ∃ v G, vs[k]? = some v ∧ Rp K H v d G ∧ ∀ a ∈ G, a ∈ F
  | [], _, _, k, d, h, e => by simp at e
  | x :: ds, _, _, 0, d, h, e => by
    cases h with
    | cons r s =>
      simp at e; subst e
      exact ⟨_, _, rfl, r, fun a ha => List.mem_append_left _ ha⟩
  | x :: ds, _, _, k + 1, d, h, e => by
    cases h with
    | cons r s =>
      obtain ⟨v, G, h1, h2, h3⟩ := RpA.get s (k := k) (d := d) (by simpa using e)
      exact ⟨v, G, by simpa using h1, h2, fun a ha => List.mem_append_right _ (h3 a ha)⟩
theorem RpA.append : ∀ {ds es : List PyData} {vs ws : List V} {F G : List Addr}, RpA K H vs ds F → RpA K H ws es G → RpA K H (vs ++ ws) (ds ++ es) (F ++ G)
  | [], _, _, _, _, _, h, q => by cases h; exact q
  | d :: ds, _, _, _, _, _, h, q => by
    cases h with
    | cons r s =>
      rw [List.append_assoc]
      exact .cons r (s.append q)
/-- a part of a list -/
theorem RpA.sub : ∀ {ds : List PyData} {vs : List V} {F : List Addr}, RpA K H vs ds F → ∀ (i n : Nat), ∃ G, RpA K H ((vs.drop i).take n) ((ds.drop i).take n) G ∧ G.Sublist F
  | [], _, _, h, i, n => by cases h; exact ⟨[], by simpa using RpA.nil, List.nil_sublist _⟩
  | d :: ds, _, _, h, 0, 0 => ⟨[], by simpa using RpA.nil, List.nil_sublist _⟩
  | d :: ds, _, _, h, 0, n + 1 => by
    cases h with
    | cons r s =>
      obtain ⟨G, h1, h2⟩ := RpA.sub s 0 n
      exact ⟨_, by simpa using RpA.cons r h1, (List.Sublist.refl _).append h2⟩
  | d :: ds, _, _, h, i + 1, n => by
    cases h with
    | cons r s =>
      obtain ⟨G, h1, h2⟩ := RpA.sub s i n
      exact ⟨G, by simpa using h1, h2.trans (List.sublist_append_right _ _)⟩
end
def RR (K : PySem.W.Frag) (pb : Addr) (H : Hp) (x : V) : R → List Addr → Prop
  | .d v, F => Rp K H x v F
  | .box, F => x = .ref pb ∧ F = []
theorem RR.trk {K : PySem.W.Frag} {pb : Addr} {H : Hp} {x : V} {r : R} {F : List Addr} (h : RR K pb H x r F) : ∀ a ∈ F, ∃ xs, H a = some (.lst xs) := by
  cases r with
  | d v => exact Rp.trk _ _ _ h
  | box => obtain ⟨_, rfl⟩ := h; intro a ha; cases ha
theorem RR.im {K : PySem.W.Frag} {pb : Addr} {H : Hp} {x : V} {r : R} {F : List Addr} (h : RR K pb H x r F) (k : imR r = true) : F = [] := by
  cases r with
  | d v => exact Rp.im _ _ _ h k
  | box => exact h.2
theorem RR.move {K : PySem.W.Frag} {pb : Addr} {H H' : Hp} {x : V} {r : R} {F : List Addr} (h : RR K pb H x r F) (t : Tt H H') (k : ∀ a ∈ F, ∀ o, H a = some o → H' a = some o) : RR K pb H' x r F := by
  cases r with
  | d v => exact Rp.move t _ _ _ h k
  | box => exact h

/-! ### the state -/
abbrev Sl := Option (R × Bool)
structure S (β : Type) where
  sl : List Sl
  w : β
/-- the box: what is passed about and turned by the draws; its objects at FB -/
structure Bx (β : Type) where
  rep : β → Hp → Addr → List Addr → Prop
  trk : ∀ {b H p FB}, rep b H p FB → ∀ a ∈ FB, H a ≠ none
  same : ∀ {b H H' p FB}, rep b H p FB → (∀ a ∈ FB, ∀ o, H a = some o → H' a = some o) → rep b H' p FB
structure Gh where
  pb : Addr
  FB : List Addr
  X : List Addr
  H0 : Hp
  Fa : List Addr
  hid : List Addr
variable {β : Type}
def Own (st : S β) (fp : Nat → List Addr) (a : Addr) : Prop := ∃ i r, st.sl[i]? = some (some (r, true)) ∧ a ∈ fp i
structure Rel (K : PySem.W.Frag) (B : Bx β) (g : Gh) (st : S β) (fp : Nat → List Addr) (σ : L2.St) (H : Hp) : Prop where
  len : σ.length = st.sl.length
  val : ∀ i r o, st.sl[i]? = some (some (r, o)) → ∃ x, σ[i]? = some (some x) ∧ RR K g.pb H x r (fp i)
  nd : ∀ i r, st.sl[i]? = some (some (r, true)) → (fp i).Nodup ∧ ∀ a ∈ fp i, g.H0 a = none
  dj : ∀ i j r r' o, i ≠ j → st.sl[i]? = some (some (r, true)) → st.sl[j]? = some (some (r', o)) → ∀ a ∈ fp i, a ∉ fp j
  nb : ∀ i r o, st.sl[i]? = some (some (r, o)) → ∀ a ∈ fp i, a ∉ g.FB ∧ a ∉ g.X
  ar : ∀ i r o, st.sl[i]? = some (some (r, o)) → ∀ a ∈ fp i, g.H0 a = none ∨ a ∈ g.Fa
  bx : B.rep st.w H g.pb g.FB
  xt : ∀ a ∈ g.X, H a ≠ none
  hd : ∀ a ∈ g.hid, H a ≠ none ∧ ¬ Own st fp a ∧ (a ∉ g.FB ∧ a ∉ g.X) ∧ (g.H0 a = none ∨ a ∈ g.Fa)
  h0 : ∀ a, H a = none → g.H0 a = none
section
variable {K : PySem.W.Frag} {B : Bx β} {g : Gh} {st st' st1 st2 : S β} {fp fp' fp1 fp2 : Nat → List Addr} {σ σ' : L2.St} {H H' H1 H2 : Hp}
theorem Rel.trk (h : Rel K B g st fp σ H) {i : Nat} {r : R} {o : Bool} (e : st.sl[i]? = some (some (r, o))) : ∀ a ∈ fp i, H a ≠ none := fun a ha z => by
  obtain ⟨x, _, q⟩ := h.val i r o e
  obtain ⟨xs, q⟩ := q.trk a ha
  rw [q] at z; cases z
theorem Rel.own_trk (h : Rel K B g st fp σ H) {a : Addr} (o : Own st fp a) : H a ≠ none := by
  obtain ⟨i, r, e, ha⟩ := o
  exact h.trk e a ha
theorem Rel.own_h0 (h : Rel K B g st fp σ H) {a : Addr} (o : Own st fp a) : g.H0 a = none := by
  obtain ⟨i, r, e, ha⟩ := o
  exact (h.nd i r e).2 a ha
/-- the heap grows -/
theorem Rel.same (h : Rel K B g st fp σ H) (s : Same H H') : Rel K B g st fp σ H' :=
  ⟨h.len, fun i r o e => let ⟨x, h1, h2⟩ := h.val i r o e; ⟨x, h1, h2.move (.same s) fun a _ o q => s a o q⟩, h.nd, h.dj, h.nb, h.ar, B.same h.bx fun a _ o q => s a o q,
    fun a ha z => h.xt a ha (s.free z), fun a ha => let q := h.hd a ha; ⟨fun z => q.1 (s.free z), q.2⟩, fun a z => h.h0 a (s.free z)⟩

/-! ### results of expressions -/
structure Cm where
  x : V
  v : R
  fr : Bool
  F : List Addr
def CDj (c c' : Cm) : Prop := (c.fr = true ∨ c'.fr = true) → ∀ a ∈ c.F, a ∉ c'.F
structure COk (K : PySem.W.Frag) (g : Gh) (m : List Nat) (st : S β) (fp : Nat → List Addr) (H : Hp) (st' : S β) (fp' : Nat → List Addr) (H' : Hp) (c : Cm) : Prop where
  rr : RR K g.pb H' c.x c.v c.F
  fr : c.fr = true → c.F.Nodup ∧ (∀ i r o, st'.sl[i]? = some (some (r, o)) → ∀ a ∈ c.F, a ∉ fp' i) ∧ ∀ a ∈ c.F, Own st fp a ∨ H a = none
  ali : ∀ i r, st'.sl[i]? = some (some (r, true)) → i ∉ m → ∀ a ∈ c.F, a ∉ fp' i
  src : ∀ a ∈ c.F, (∃ i r o, st'.sl[i]? = some (some (r, o)) ∧ a ∈ fp' i) ∨ a ∈ g.hid ∨ Own st fp a ∨ H a = none
  nb : ∀ a ∈ c.F, a ∉ g.FB ∧ a ∉ g.X
structure Res (K : PySem.W.Frag) (B : Bx β) (g : Gh) (m : List Nat) (mu : Bool) (st : S β) (fp : Nat → List Addr) (σ : L2.St) (H : Hp) (st' : S β) (fp' : Nat → List Addr) (H' : Hp) (cs : List Cm) : Prop where
  rel : Rel K B g st' fp' σ H'
  sub : ∀ i r' o, st'.sl[i]? = some (some (r', o)) → (∃ r, st.sl[i]? = some (some (r, o))) ∧ ∀ a ∈ fp' i, a ∈ fp i
  keep : ∀ a o, H a = some o → ¬ Own st fp a → a ∉ g.FB → a ∉ g.X → H' a = some o
  trk : ∀ a, H' a = none → H a = none
  tt : Tt H H'
  each : ∀ c ∈ cs, COk K g m st fp H st' fp' H' c
  pw : cs.Pairwise CDj
  pure : mu = false → st'.sl = st.sl ∧ fp' = fp ∧ ∀ a o, H a = some o → a ∉ g.FB → a ∉ g.X → H' a = some o
theorem Res.one {m : List Nat} {mu : Bool} {c : Cm} (r : Res K B g m mu st fp σ H st' fp' H' [c]) : RR K g.pb H' c.x c.v c.F := (r.each c List.mem_cons_self).rr
theorem Res.refl (h : Rel K B g st fp σ H) {m : List Nat} {mu : Bool} : Res K B g m mu st fp σ H st fp H [] :=
  ⟨h, fun i r o e => ⟨⟨r, e⟩, fun _ ha => ha⟩, fun _ _ e _ _ _ => e, fun _ e => e, .refl H, (fun _ hc => nomatch hc), List.Pairwise.nil, fun _ => ⟨rfl, rfl, fun _ _ e _ _ => e⟩⟩
theorem Res.own {m : List Nat} {mu : Bool} {cs : List Cm} (r : Res K B g m mu st fp σ H st' fp' H' cs) {a : Addr} (o : Own st' fp' a) : Own st fp a := by
  obtain ⟨i, x, e, ha⟩ := o
  obtain ⟨⟨y, e'⟩, s⟩ := r.sub i x true e
  exact ⟨i, y, e', s a ha⟩
theorem Res.weak {m m' : List Nat} {mu mu' : Bool} {cs cs' : List Cm} (r : Res K B g m mu st fp σ H st' fp' H' cs) (hm : ∀ i ∈ m, i ∈ m') (hu : mu = true → mu' = true) (hc : cs'.Sublist cs) : Res K B g m' mu' st fp σ H st' fp' H' cs' :=
  ⟨r.rel, r.sub, r.keep, r.trk, r.tt, fun c hc' => let q := r.each c (hc.subset hc'); ⟨q.rr, q.fr, fun i x e ni => q.ali i x e fun z => ni (hm i z), q.src, q.nb⟩, r.pw.sublist hc,
    fun e => r.pure (by cases mu with | false => rfl | true => rw [hu rfl] at e; cases e)⟩
/-- one result behind others -/
theorem Res.app {m1 m2 : List Nat} {mu1 mu2 : Bool} {cs1 cs2 : List Cm} (h0 : Rel K B g st fp σ H) (r1 : Res K B g m1 mu1 st fp σ H st1 fp1 H1 cs1) (r2 : Res K B g m2 mu2 st1 fp1 σ H1 st2 fp2 H2 cs2) (hm : mu2 = true → ∀ c ∈ cs1, c.fr = true) :
    Res K B g (m1 ++ m2) (mu1 || mu2) st fp σ H st2 fp2 H2 (cs1 ++ cs2) := by
  have stay : ∀ c ∈ cs1, ∀ a ∈ c.F, ∀ o, H1 a = some o → H2 a = some o := fun c hc a ha o e => by
    have q := r1.each c hc
    cases hu : mu2 with
    | false => exact (r2.pure hu).2.2 a o e (q.nb a ha).1 (q.nb a ha).2
    | true =>
      refine r2.keep a o e (fun ⟨i, x, e', ha'⟩ => ?_) (q.nb a ha).1 (q.nb a ha).2
      exact (q.fr (hm hu c hc)).2.1 i x true e' a ha ha'
  have slot2 : ∀ i r o, st2.sl[i]? = some (some (r, o)) → (∃ r1, st1.sl[i]? = some (some (r1, o))) ∧ ∀ a ∈ fp2 i, a ∈ fp1 i := r2.sub
  have ownB : ∀ a, Own st1 fp1 a → Own st fp a := fun a o => r1.own o
  refine ⟨r2.rel, fun i r o e => ?_, fun a o e n1 n2 n3 => ?_, fun a e => r1.trk a (r2.trk a e), r1.tt.trans r2.tt, fun c hc => ?_, ?_, fun e => ?_⟩
  · obtain ⟨⟨y, e1⟩, s⟩ := r2.sub i r o e
    obtain ⟨⟨z, e2⟩, s'⟩ := r1.sub i y o e1
    exact ⟨⟨z, e2⟩, fun a ha => s' a (s a ha)⟩
  · exact r2.keep a o (r1.keep a o e n1 n2 n3) (fun z => n1 (ownB a z)) n2 n3
  · rcases List.mem_append.mp hc with hc | hc
    · have q := r1.each c hc
      refine ⟨q.rr.move r2.tt (stay c hc), fun f => ?_, fun i x e ni a ha z => ?_, fun a ha => ?_, q.nb⟩
      · obtain ⟨f1, f2, f3⟩ := q.fr f
        refine ⟨f1, fun i x o e a ha z => ?_, f3⟩
        obtain ⟨⟨y, e1⟩, s⟩ := r2.sub i x o e
        exact f2 i y o e1 a ha (s a z)
      · obtain ⟨⟨y, e1⟩, s⟩ := r2.sub i x true e
        exact q.ali i y e1 (fun z => ni (List.mem_append_left _ z)) a ha (s a z)
      · rcases q.src a ha with ⟨i, x, o, e, ha'⟩ | z
        · cases hu : mu2 with
          | false =>
            obtain ⟨p1, p2, _⟩ := r2.pure hu
            exact .inl ⟨i, x, o, by rw [p1]; exact e, by rw [p2]; exact ha'⟩
          | true => exact .inr (.inr ((q.fr (hm hu c hc)).2.2 a ha))
        · exact .inr z
    · have q := r2.each c hc
      refine ⟨q.rr, fun f => ?_, fun i x e ni a ha z => ?_, fun a ha => ?_, q.nb⟩
      · obtain ⟨f1, f2, f3⟩ := q.fr f
        exact ⟨f1, f2, fun a ha => (f3 a ha).elim (fun z => .inl (ownB a z)) fun z => .inr (r1.trk a z)⟩
      · exact q.ali i x e (fun z => ni (List.mem_append_right _ z)) a ha z
      · rcases q.src a ha with z | z | z | z
        · exact .inl z
        · exact .inr (.inl z)
        · exact .inr (.inr (.inl (ownB a z)))
        · exact .inr (.inr (.inr (r1.trk a z)))
  · refine List.pairwise_append.mpr ⟨r1.pw, r2.pw, fun c hc c' hc' hf a ha ha' => ?_⟩
    have q := r1.each c hc
    have q' := r2.each c' hc'
    obtain ⟨xs, ta⟩ := q.rr.trk a ha
    have new : ¬ H1 a = none := fun z => by rw [ta] at z; cases z
    cases hfr : c.fr with
    | true =>
      obtain ⟨f1, f2, f3⟩ := q.fr hfr
      rcases q'.src a ha' with ⟨i, x, o, e, z⟩ | z | ⟨i, x, e, z⟩ | z
      · obtain ⟨⟨y, e1⟩, s⟩ := r2.sub i x o e
        exact f2 i y o e1 a ha (s a z)
      · have hh := h0.hd a z
        exact (f3 a ha).elim hh.2.1 hh.1
      · exact f2 i x true e a ha z
      · exact new z
    | false =>
      have hf' : c'.fr = true := hf.elim (fun z => by rw [hfr] at z; cases z) id
      have hmu : mu2 = false := by
        cases h : mu2 with
        | false => rfl
        | true => have := hm h c hc; rw [hfr] at this; cases this
      obtain ⟨p1, p2, _⟩ := r2.pure hmu
      obtain ⟨f1, f2, f3⟩ := q'.fr hf'
      rcases q.src a ha with ⟨i, x, o, e, z⟩ | z | z | z
      · exact f2 i x o (by rw [p1]; exact e) a ha' (by rw [p2]; exact z)
      · have hh := r1.rel.hd a z
        exact (f3 a ha').elim hh.2.1 hh.1
      · -- a popped part, not fresh: it is owned by none now
        rcases f3 a ha' with ⟨i, x, e, z'⟩ | z'
        · exact f2 i x true (by rw [p1]; exact e) a ha' (by rw [p2]; exact z')
        · exact new z'
      · rcases f3 a ha' with ⟨i, x, e, z'⟩ | z'
        · exact f2 i x true (by rw [p1]; exact e) a ha' (by rw [p2]; exact z')
        · exact new z'
  · have e1 : mu1 = false ∧ mu2 = false := by cases mu1 <;> cases mu2 <;> first | exact ⟨rfl, rfl⟩ | cases e
    obtain ⟨a1, a2, a3⟩ := r1.pure e1.1
    obtain ⟨b1, b2, b3⟩ := r2.pure e1.2
    exact ⟨b1.trans a1, b2.trans a2, fun a o e n2 n3 => b3 a o (a3 a o e n2 n3) n2 n3⟩
/-- a step that makes new things alone -/
structure New (K : PySem.W.Frag) (H H' : Hp) (z : V) (d : PyData) (F src : List Addr) (nt : Bool) : Prop where
  same : Same H H'
  rp : Rp K H' z d F
  src : ∀ a ∈ F, a ∈ src ∨ H a = none
  new : frOf nt d = true → F.Nodup ∧ ∀ a ∈ F, H a = none
theorem Res.new {m : List Nat} {mu : Bool} {cs : List Cm} {z : V} {d : PyData} {F src : List Addr} {nt : Bool} (h0 : Rel K B g st fp σ H) (r : Res K B g m mu st fp σ H st' fp' H' cs) (n : New K H' H1 z d F src nt) (hs : ∀ a ∈ src, ∃ c ∈ cs, a ∈ c.F) :
    Res K B g m mu st fp σ H st' fp' H1 [⟨z, .d d, frOf nt d, F⟩] := by
  have newNb : ∀ a, H' a = none → a ∉ g.FB ∧ a ∉ g.X := fun a z => ⟨fun ha => B.trk r.rel.bx a ha z, fun ha => r.rel.xt a ha z⟩
  refine ⟨r.rel.same n.same, r.sub, fun a o e n1 n2 n3 => n.same a o (r.keep a o e n1 n2 n3), fun a e => r.trk a (n.same.free e), r.tt.trans (.same n.same), fun c hc => ?_, .cons (fun _ h => (nomatch h)) List.Pairwise.nil, fun e => ?_⟩
  · have : c = ⟨z, .d d, frOf nt d, F⟩ := by simpa using hc
    subst this
    refine ⟨n.rp, fun f => ?_, fun i x e ni a ha q => ?_, fun a ha => ?_, fun a ha => ?_⟩
    · obtain ⟨f1, f2⟩ := n.new f
      exact ⟨f1, fun i x o e a ha q => r.rel.trk e a q (f2 a ha), fun a ha => .inr (r.trk a (f2 a ha))⟩
    · rcases n.src a ha with z | z
      · obtain ⟨c, hc, hac⟩ := hs a z
        exact (r.each c hc).ali i x e ni a hac q
      · exact r.rel.trk e a q z
    · rcases n.src a ha with z | z
      · obtain ⟨c, hc, hac⟩ := hs a z
        exact (r.each c hc).src a hac
      · exact .inr (.inr (.inr (r.trk a z)))
    · rcases n.src a ha with z | z
      · obtain ⟨c, hc, hac⟩ := hs a z
        exact (r.each c hc).nb a hac
      · exact newNb a z
  · obtain ⟨p1, p2, p3⟩ := r.pure e
    exact ⟨p1, p2, fun a o e n2 n3 => n.same a o (p3 a o e n2 n3)⟩
end
end Vv

set_option Elab.async false
set_option linter.all false
set_option maxRecDepth 100000
set_option autoImplicit false
set_option maxHeartbeats 4000000
/-! Vv, part 2: expressions. -/
namespace Vv
open PySem PySem.Spec PyProof.Rows L2
variable {β : Type}
abbrev EF (β : Type) := S β → Option (R × Bool × S β)
abbrev AF (β : Type) := S β → Option (List (R × Bool) × S β)
abbrev TF (β : Type) := S β → Option (Bool × S β)
def tE (K : PySem.W.Frag) (B : Bx β) (f : EF β) (m : List Nat) (mu : Bool) : TE := fun σ H Q => ∃ g st fp, Rel K B g st fp σ H ∧ ∃ v fr st', f st = some (v, fr, st') ∧
  ∀ x F fp' H', Res K B g m mu st fp σ H st' fp' H' [⟨x, v, fr, F⟩] → Q x H'
def tA (K : PySem.W.Frag) (B : Bx β) (f : AF β) (m : List Nat) (mu : Bool) : TA := fun σ H Q => ∃ g st fp, Rel K B g st fp σ H ∧ ∃ vs st', f st = some (vs, st') ∧
  ∀ cs fp' H', Res K B g m mu st fp σ H st' fp' H' cs → cs.map (fun c => (c.v, c.fr)) = vs → Q (cs.map (·.x)) H'
def tT (K : PySem.W.Frag) (B : Bx β) (f : TF β) (m : List Nat) (mu : Bool) : TT := fun σ H Q => ∃ g st fp, Rel K B g st fp σ H ∧ ∃ b st', f st = some (b, st') ∧
  ∀ fp' H', Res K B g m mu st fp σ H st' fp' H' [] → Q b H'
abbrev VE (X : Cx) (B : Bx β) (e : Expr) (f : EF β) (m : List Nat) (mu : Bool) : Prop := PE X e (tE X.K B f m mu)
abbrev VA (X : Cx) (B : Bx β) (es : List Expr) (f : AF β) (m : List Nat) (mu : Bool) : Prop := PA X es (tA X.K B f m mu)
abbrev VT (X : Cx) (B : Bx β) (e : Expr) (f : TF β) (m : List Nat) (mu : Bool) : Prop := PT X e (tT X.K B f m mu)
abbrev VW (X : Cx) (B : Bx β) (e : Expr) (f : TF β) (m : List Nat) (mu : Bool) : Prop := PW X e (tT X.K B f m mu)
section
variable {X : Cx}
theorem PE_con {e : Expr} {t t' : TE} (h : PE X e t) (w : ∀ σ H Q, t' σ H Q → t σ H Q) : PE X e t' := ⟨fun pins s σ H Q I q => h.run pins s σ H Q I (w σ H Q q)⟩
theorem PA_con {es : List Expr} {t t' : TA} (h : PA X es t) (w : ∀ σ H Q, t' σ H Q → t σ H Q) : PA X es t' := ⟨fun pos pins s σ H Q I q => h.run pos pins s σ H Q I (w σ H Q q)⟩
theorem PT_con {e : Expr} {t t' : TT} (h : PT X e t) (w : ∀ σ H Q, t' σ H Q → t σ H Q) : PT X e t' := ⟨fun pins s σ H Q I q => h.run pins s σ H Q I (w σ H Q q)⟩
theorem PW_con {e : Expr} {t t' : TT} (h : PW X e t) (w : ∀ σ H Q, t' σ H Q → t σ H Q) : PW X e t' := ⟨fun wh pins s σ H Q I q => h.run wh pins s σ H Q I (w σ H Q q)⟩
end

/-! ### combinators -/
def bE {γ : Type} (x : Option (R × Bool × S β)) (k : R → Bool → S β → Option γ) : Option γ := match x with
  | some (v, fr, s) => k v fr s
  | none => none
def bA {γ : Type} (x : Option (List (R × Bool) × S β)) (k : List (R × Bool) → S β → Option γ) : Option γ := match x with
  | some (vs, s) => k vs s
  | none => none
def bT {γ : Type} (x : Option (Bool × S β)) (k : Bool → S β → Option γ) : Option γ := match x with
  | some (b, s) => k b s
  | none => none
@[simp] theorem bE_some {γ : Type} (v : R) (fr : Bool) (s : S β) (k : R → Bool → S β → Option γ) : bE (some (v, fr, s)) k = k v fr s := rfl
@[simp] theorem bA_some {γ : Type} (vs : List (R × Bool)) (s : S β) (k : List (R × Bool) → S β → Option γ) : bA (some (vs, s)) k = k vs s := rfl
@[simp] theorem bT_some {γ : Type} (b : Bool) (s : S β) (k : Bool → S β → Option γ) : bT (some (b, s)) k = k b s := rfl
theorem bE_inv {γ : Type} {x : Option (R × Bool × S β)} {k : R → Bool → S β → Option γ} {z : γ} (h : bE x k = some z) : ∃ v fr s, x = some (v, fr, s) ∧ k v fr s = some z := by
  match x, h with
  | some (v, fr, s), h => exact ⟨v, fr, s, rfl, h⟩
theorem bA_inv {γ : Type} {x : Option (List (R × Bool) × S β)} {k : List (R × Bool) → S β → Option γ} {z : γ} (h : bA x k = some z) : ∃ v s, x = some (v, s) ∧ k v s = some z := by
  match x, h with
  | some (v, s), h => exact ⟨v, s, rfl, h⟩
theorem bT_inv {γ : Type} {x : Option (Bool × S β)} {k : Bool → S β → Option γ} {z : γ} (h : bT x k = some z) : ∃ v s, x = some (v, s) ∧ k v s = some z := by
  match x, h with
  | some (v, s), h => exact ⟨v, s, rfl, h⟩
def gd (b : Bool) {γ : Type} (x : Option γ) : Option γ := if b then x else none
@[simp] theorem gd_true {γ : Type} (x : Option γ) : gd true x = x := rfl
theorem gd_inv {b : Bool} {γ : Type} {x : Option γ} {z : γ} (h : gd b x = some z) : b = true ∧ x = some z := by
  cases b with
  | true => exact ⟨rfl, h⟩
  | false => cases h

/-! ### names, constants -/
def fVar (i : Nat) : EF β := fun st => match st.sl[i]? with
  | some (some (r, _)) => some (r, imR r, st)
  | _ => none
def fC (d : PyData) : EF β := fun st => some (.d d, true, st)
section
variable {X : Cx} {B : Bx β}
theorem xVar {i : Nat} {x : Str} {pos : Pos} (h : PE X (.Name x pos) (tVar i)) : VE X B (.Name x pos) (fVar i) [i] false := by
  refine PE_con h ?_
  rintro σ H Q ⟨g, st, fp, rel, v, fr, st', e, q⟩
  unfold fVar at e
  split at e
  · rename_i r o e1
    cases e
    obtain ⟨x, e2, rr⟩ := rel.val i v o e1
    refine ⟨x, e2, q x (fp i) fp H ?_⟩
    refine ⟨rel, fun j r o e => ⟨⟨r, e⟩, fun _ ha => ha⟩, fun _ _ e _ _ _ => e, fun _ e => e, .refl H, fun c hc => ?_, .cons (fun _ h => (nomatch h)) List.Pairwise.nil, fun _ => ⟨rfl, rfl, fun _ _ e _ _ => e⟩⟩
    have : c = ⟨x, v, imR v, fp i⟩ := by simpa using hc
    subst this
    refine ⟨rr, fun f => ?_, fun j r' e' ni a ha z => ?_, fun a ha => (.inl ⟨i, v, o, e1, ha⟩), fun a ha => rel.nb i v o e1 a ha⟩
    · have z : fp i = [] := rr.im f
      show (fp i).Nodup ∧ (∀ j r o, st.sl[j]? = some (some (r, o)) → ∀ a ∈ fp i, a ∉ fp j) ∧ ∀ a ∈ fp i, Own st fp a ∨ H a = none
      rw [z]
      exact ⟨List.nodup_nil, fun _ _ _ _ a ha => (nomatch ha), fun a ha => (nomatch ha)⟩
    · exact rel.dj j i r' v o (by simpa using ni) e' e1 a z ha
  · cases e
theorem xConst {e : Expr} {v : V} {d : PyData} (h : PE X e (tC v)) (hr : ∀ H, Rp X.K H v d []) : VE X B e (fC d) [] false := by
  refine PE_con h ?_
  rintro σ H Q ⟨g, st, fp, rel, v', fr, st', e, q⟩
  cases e
  refine q v [] fp H ?_
  refine ⟨rel, fun j r o e => ⟨⟨r, e⟩, fun _ ha => ha⟩, fun _ _ e _ _ _ => e, fun _ e => e, .refl H, fun c hc => ?_, .cons (fun _ h => (nomatch h)) List.Pairwise.nil, fun _ => ⟨rfl, rfl, fun _ _ e _ _ => e⟩⟩
  have : c = ⟨v, .d d, true, []⟩ := by simpa using hc
  subst this
  exact ⟨hr H, fun _ => ⟨List.nodup_nil, fun _ _ _ _ a ha => (nomatch ha), fun a ha => (nomatch ha)⟩, fun _ _ _ _ a ha => (nomatch ha), fun a ha => (nomatch ha), fun a ha => (nomatch ha)⟩
theorem xInt {i : Int} {j : Nat} {pos : Pos} : VE X B (.Constant (.int i) j pos) (fC (.int i)) [] false := xConst pe_int fun _ => .int i
theorem xBl {b : Bool} {j : Nat} {pos : Pos} : VE X B (.Constant (.bool b) j pos) (fC (.bool b)) [] false := xConst pe_bl fun _ => .bl b
theorem xNon {j : Nat} {pos : Pos} : VE X B (.Constant .none j pos) (fC .none) [] false := xConst pe_non fun _ => .non
theorem xStr {x : Str} {j : Nat} {pos : Pos} : VE X B (.Constant (.str x) j pos) (fC (.str x)) [] false := xConst pe_str fun _ => .str x

/-! ### argument lists -/
def fN : AF β := fun st => some ([], st)
def fCo (mu : Bool) (f : EF β) (r : AF β) : AF β := fun st => bE (f st) fun v fr s => bA (r s) fun vs s2 => gd (!mu || fr) (some ((v, fr) :: vs, s2))
theorem aNil : VA X B [] (fN : AF β) [] false := by
  refine PA_con pa_nil ?_
  rintro σ H Q ⟨g, st, fp, rel, v', st', e, q⟩
  cases e
  exact q [] fp H (Res.refl rel) rfl
theorem aCons {e : Expr} {es : List Expr} {f : EF β} {r : AF β} {m m' : List Nat} {mu mu' : Bool} (he : VE X B e f m mu) (hr : VA X B es r m' mu') (hs : starEach (e :: es) X.env = (false, eval e X.env) :: starEach es X.env := by rfl) : VA X B (e :: es) (fCo mu' f r) (m ++ m') (mu || mu') := by
  refine PA_con (pa_cons he hr hs) ?_
  rintro σ H Q ⟨g, st, fp, rel, vs, st', e, q⟩
  obtain ⟨v, fr, s1, e1, e⟩ := bE_inv e
  obtain ⟨ws, s2, e2, e⟩ := bA_inv e
  obtain ⟨hg, e⟩ := gd_inv e
  cases e
  refine ⟨g, st, fp, rel, v, fr, s1, e1, fun x F fp1 H1 r1 => ⟨g, s1, fp1, r1.rel, ws, st', e2, fun cs fp2 H2 r2 hc => ?_⟩⟩
  refine q (⟨x, v, fr, F⟩ :: cs) fp2 H2 (Res.app rel r1 r2 fun hm c hc => ?_) (by rw [List.map_cons, hc])
  have : c = ⟨x, v, fr, F⟩ := by simpa using hc
  subst this
  subst hm
  simpa using hg
end

/-! ### pure steps on data -/
def toDs : List (R × Bool) → Option (List PyData)
  | [] => some []
  | (.d x, _) :: r => match toDs r with
    | some xs => some (x :: xs)
    | none => none
  | (.box, _) :: _ => none
theorem toDs_inv : ∀ {cs : List Cm} {ds : List PyData}, toDs (cs.map fun c => (c.v, c.fr)) = some ds → cs.map (·.v) = ds.map R.d
  | [], ds, h => by
    have : ds = [] := by
      have h' : (some [] : Option (List PyData)) = some ds := h
      exact (Option.some.inj h').symm
    subst this; rfl
  | ⟨x, .d v, fr, F⟩ :: cs, ds, h => by
    have h' : (match toDs (cs.map fun c => (c.v, c.fr)) with | some xs => some (v :: xs) | none => none) = some ds := h
    split at h'
    · rename_i xs e
      cases h'
      rw [List.map_cons, List.map_cons, toDs_inv e]
    · cases h'
  | ⟨x, .box, fr, F⟩ :: cs, ds, h => by cases h
/-- what a step on values does, by data -/
def PrimL (K : PySem.W.Frag) (r : List V → Hp → VK → Prop) (p : List PyData → Option PyData) (nt : Bool) : Prop :=
  ∀ (H : Hp) (xs : List V) (ds : List PyData) (F : List Addr) (d : PyData) (Q : VK), RpA K H xs ds F → p ds = some d → (∀ z H2 F2, New K H H2 z d F2 F nt → Q z H2) → r xs H Q
def fPr (p : List PyData → Option PyData) (nt : Bool) (f : AF β) : EF β := fun st => bA (f st) fun vs s => match toDs vs with
  | some ds => match p ds with
    | some d => some (.d d, frOf nt d, s)
    | none => none
  | none => none
theorem fPr_inv {p : List PyData → Option PyData} {nt : Bool} {f : AF β} {st st' : S β} {v : R} {fr : Bool} (e : fPr p nt f st = some (v, fr, st')) : ∃ vs ds d, f st = some (vs, st') ∧ toDs vs = some ds ∧ p ds = some d ∧ v = .d d ∧ fr = frOf nt d := by
  obtain ⟨vs, s, e1, e⟩ := bA_inv e
  split at e
  · rename_i ds e2
    split at e
    · rename_i d e3
      cases e
      exact ⟨vs, ds, d, e1, e2, e3, rfl, rfl⟩
    · cases e
  · cases e
theorem rpA_of {K : PySem.W.Frag} {pb : Addr} {H : Hp} : ∀ {cs : List Cm} {ds : List PyData}, (∀ c ∈ cs, RR K pb H c.x c.v c.F) → cs.map (·.v) = ds.map R.d → RpA K H (cs.map (·.x)) ds (cs.map (·.F)).flatten
  | [], [], _, _ => .nil
  | [], _ :: _, _, e => by cases e
  | _ :: _, [], _, e => by cases e
  | c :: cs, d :: ds, h, e => by
    rw [List.map_cons, List.map_cons] at e
    injection e with e1 e2
    have h1 := h c List.mem_cons_self
    rw [e1] at h1
    rw [List.map_cons, List.map_cons, List.flatten_cons]
    exact .cons h1 (rpA_of (fun c hc => h c (List.mem_cons_of_mem _ hc)) e2)
theorem mem_flat {cs : List Cm} {a : Addr} (h : a ∈ (cs.map (·.F)).flatten) : ∃ c ∈ cs, a ∈ c.F := by
  obtain ⟨F, h1, h2⟩ := List.mem_flatten.mp h
  obtain ⟨c, h3, rfl⟩ := List.mem_map.mp h1
  exact ⟨c, h3, h2⟩
section
variable {X : Cx} {B : Bx β}
theorem prim_con {r : List V → Hp → VK → Prop} {p : List PyData → Option PyData} {nt : Bool} {f : AF β} {m : List Nat} {mu : Bool} (hp : PrimL X.K r p nt) (σ : L2.St) (H : Hp) (Q : VK) (h : tE X.K B (fPr p nt f) m mu σ H Q) : tCB r (tA X.K B f m mu) σ H Q := by
  obtain ⟨g, st, fp, rel, v, fr, st', e, q⟩ := h
  obtain ⟨vs, ds, d, e1, e2, e3, rfl, rfl⟩ := fPr_inv e
  refine ⟨g, st, fp, rel, vs, st', e1, fun cs fp1 H1 r1 hc => ?_⟩
  rw [← hc] at e2
  exact hp H1 _ ds _ d Q (rpA_of (fun c hc => (r1.each c hc).rr) (toDs_inv e2)) e3 fun z H2 F2 n => q z F2 fp1 H2 (r1.new rel n fun a ha => mem_flat ha)
/-- a built-in function, a built-in type -/
theorem xCallB {id : String} {x : Str} {p pos : Pos} {e : Expr} {es : List Expr} {r : List V → Hp → VK → Prop} {pr : List PyData → Option PyData} {nt : Bool} {f : AF β} {m : List Nat} {mu : Bool}
    (hp : PrimL X.K r pr nt) (hc : CallR X (.builtin id) r) (hg : Gl X x) (hm : X.mg x = none) (hv : bootBuiltins x = some (.builtin id)) (ha : VA X B (e :: es) f m mu) (hn : x ≠ "__name__" := by decide) (hdb : (x == ("__debug__" : Str)) = false := by decide)
    (he : starEach (e :: es) X.env = (false, eval e X.env) :: starEach es X.env := by rfl) (hpl : (backTo pos (starEach es X.env)).any (·.1) = false := by rfl) : VE X B (.Call (.Name x p) (e :: es) [] pos) (fPr pr nt f) m mu :=
  PE_con (pe_callB hc hg hm hv ha hn hdb he hpl) fun σ H Q h => prim_con hp σ H Q h
theorem xCallTy {T : String} {x : Str} {p pos : Pos} {e : Expr} {es : List Expr} {r : List V → Hp → VK → Prop} {pr : List PyData → Option PyData} {nt : Bool} {f : AF β} {m : List Nat} {mu : Bool}
    (hp : PrimL X.K r pr nt) (hc : CallR X (.type T) r) (hg : Gl X x) (hm : X.mg x = none) (hv : bootBuiltins x = some (.type T)) (ha : VA X B (e :: es) f m mu) (hn : x ≠ "__name__" := by decide) (hdb : (x == ("__debug__" : Str)) = false := by decide)
    (he : starEach (e :: es) X.env = (false, eval e X.env) :: starEach es X.env := by rfl) (hpl : (backTo pos (starEach es X.env)).any (·.1) = false := by rfl) : VE X B (.Call (.Name x p) (e :: es) [] pos) (fPr pr nt f) m mu :=
  PE_con (pe_callTy hc hg hm hv ha hn hdb he hpl) fun σ H Q h => prim_con hp σ H Q h

/-! ### two operands -/
def Prim2 (K : PySem.W.Frag) (r : R2) (p : PyData → PyData → Option PyData) (nt : Bool) : Prop :=
  ∀ (H : Hp) (x y : V) (a b : PyData) (F G : List Addr) (d : PyData) (Q : VK), Rp K H x a F → Rp K H y b G → p a b = some d → (∀ z H2 F2, New K H H2 z d F2 (F ++ G) nt → Q z H2) → r x y H Q
def ap2 (p : PyData → PyData → Option PyData) (nt : Bool) (v w : R) (s : S β) : Option (R × Bool × S β) := match v, w with
  | .d a, .d b => match p a b with
    | some d => some (.d d, frOf nt d, s)
    | none => none
  | _, _ => none
def f2 (p : PyData → PyData → Option PyData) (nt mu : Bool) (f h : EF β) : EF β := fun st => bE (f st) fun v fr s => bE (h s) fun w _ s2 => gd (!mu || fr) (ap2 p nt v w s2)
theorem ap2_inv {p : PyData → PyData → Option PyData} {nt : Bool} {v w z : R} {s s' : S β} {fr : Bool} (e : ap2 p nt v w s = some (z, fr, s')) : ∃ a b d, v = .d a ∧ w = .d b ∧ p a b = some d ∧ z = .d d ∧ fr = frOf nt d ∧ s' = s := by
  unfold ap2 at e
  split at e
  · rename_i a b
    split at e
    · rename_i d e1
      cases e
      exact ⟨a, b, d, rfl, rfl, e1, rfl, rfl, rfl⟩
    · cases e
  · cases e
theorem two_con {r : R2} {p : PyData → PyData → Option PyData} {nt mu1 mu2 : Bool} {f h : EF β} {m1 m2 : List Nat} (hp : Prim2 X.K r p nt) (σ : L2.St) (H : Hp) (Q : VK) (q : tE X.K B (f2 p nt mu2 f h) (m1 ++ m2) (mu1 || mu2) σ H Q) :
    tOp r (tE X.K B f m1 mu1) (tE X.K B h m2 mu2) σ H Q := by
  obtain ⟨g, st, fp, rel, v, fr, st', e, q⟩ := q
  obtain ⟨v1, fr1, s1, e1, e⟩ := bE_inv e
  obtain ⟨v2, fr2, s2, e2, e⟩ := bE_inv e
  obtain ⟨hg, e⟩ := gd_inv e
  obtain ⟨a, b, d, rfl, rfl, e3, rfl, rfl, rfl⟩ := ap2_inv e
  refine ⟨g, st, fp, rel, .d a, fr1, s1, e1, fun x F fp1 H1 r1 => ⟨g, s1, fp1, r1.rel, .d b, fr2, st', e2, fun y G fp2 H2 r2 => ?_⟩⟩
  have r12 := Res.app rel r1 r2 fun hm c hc => by
    have : c = ⟨x, .d a, fr1, F⟩ := by simpa using hc
    subst this
    subst hm
    simpa using hg
  have h1 := (r12.each ⟨x, .d a, fr1, F⟩ (by simp)).rr
  have h2 := (r12.each ⟨y, .d b, fr2, G⟩ (by simp)).rr
  refine hp H2 x y a b F G d Q h1 h2 e3 fun z H3 F2 n => q z F2 fp2 H3 (r12.new rel n fun a' ha => ?_)
  rcases List.mem_append.mp ha with z | z
  · exact ⟨⟨x, .d a, fr1, F⟩, by simp, z⟩
  · exact ⟨⟨y, .d b, fr2, G⟩, by simp, z⟩
theorem xBin {op : Operator} {a b : Expr} {pos : Pos} {r : R2} {p : PyData → PyData → Option PyData} {nt mu1 mu2 : Bool} {f h : EF β} {m1 m2 : List Nat} (hp : Prim2 X.K r p nt) (ho : OpR X (binaryOp op) r) (ha : VE X B a f m1 mu1) (hb : VE X B b h m2 mu2) :
    VE X B (.BinOp a op b pos) (f2 p nt mu2 f h) (m1 ++ m2) (mu1 || mu2) := PE_con (pe_op ho ha hb) fun σ H Q q => two_con hp σ H Q q
theorem xCmp {op : CmpOp} {a b : Expr} {pos : Pos} {r : R2} {p : PyData → PyData → Option PyData} {nt mu1 mu2 : Bool} {f h : EF β} {m1 m2 : List Nat} (hp : Prim2 X.K r p nt) (ho : OpR X (compareOp op) r) (ha : VE X B a f m1 mu1) (hb : VE X B b h m2 mu2) (hm : behindInMarks op b = false) :
    VE X B (.Compare a [op] [b] pos) (f2 p nt mu2 f h) (m1 ++ m2) (mu1 || mu2) := PE_con (pe_cmpR ho ha hb hm) fun σ H Q q => two_con hp σ H Q q
/-- a bool as a test -/
def fB (f : EF β) : TF β := fun st => bE (f st) fun v _ s => match v with
  | .d (.bool b) => some (b, s)
  | _ => none
theorem rp_bl {K : PySem.W.Frag} {H : Hp} {x : V} {b : Bool} {F : List Addr} (h : Rp K H x (.bool b) F) : x = .bl b ∧ F = [] := by cases h; exact ⟨rfl, rfl⟩
theorem rp_int {K : PySem.W.Frag} {H : Hp} {x : V} {b : Int} {F : List Addr} (h : Rp K H x (.int b) F) : x = .int b ∧ F = [] := by cases h; exact ⟨rfl, rfl⟩
theorem rp_str {K : PySem.W.Frag} {H : Hp} {x : V} {b : Str} {F : List Addr} (h : Rp K H x (.str b) F) : x = .str b ∧ F = [] := by cases h; exact ⟨rfl, rfl⟩
theorem rp_non {K : PySem.W.Frag} {H : Hp} {x : V} {F : List Addr} (h : Rp K H x .none F) : x = .non ∧ F = [] := by cases h; exact ⟨rfl, rfl⟩
theorem test_con {f : EF β} {m : List Nat} {mu : Bool} (σ : L2.St) (H : Hp) (Q : Bool → Hp → Prop) (q : tT X.K B (fB f) m mu σ H Q) : tE X.K B f m mu σ H fun x H' => ∃ k, x = .bl k ∧ Q k H' := by
  obtain ⟨g, st, fp, rel, b, st', e, q⟩ := q
  obtain ⟨v, fr, s, e1, e⟩ := bE_inv e
  split at e
  · cases e
    refine ⟨g, st, fp, rel, .d (.bool b), fr, st', e1, fun x F fp1 H1 r1 => ?_⟩
    obtain ⟨rfl, rfl⟩ := rp_bl r1.one
    exact ⟨b, rfl, q fp1 H1 (r1.weak (fun _ h => h) (fun h => h) (by simp))⟩
  · cases e
theorem tCmp {op : CmpOp} {a b : Expr} {pos : Pos} {r : R2} {p : PyData → PyData → Option PyData} {nt mu1 mu2 : Bool} {f h : EF β} {m1 m2 : List Nat} (hp : Prim2 X.K r p nt) (ho : OpR X (compareOp op) r) (ha : VE X B a f m1 mu1) (hb : VE X B b h m2 mu2) (hm : behindInMarks op b = false) :
    VT X B (.Compare a [op] [b] pos) (fB (f2 p nt mu2 f h)) (m1 ++ m2) (mu1 || mu2) := PT_con (pt_cmpR ho ha hb hm) fun σ H Q q => two_con hp σ H _ (test_con σ H Q q)
/-- a value as a test -/
def truD : PyData → Option Bool
  | .none => some false
  | .bool b => some b
  | .int i => some (i != 0)
  | .str s => if s.length ≤ sizeLine then some ((s.length : Int) != 0) else none
  | .list xs => some !xs.isEmpty
  | .tuple xs => some !xs.isEmpty
  | .dict _ => none
def fTr (f : EF β) : TF β := fun st => bE (f st) fun v _ s => match v with
  | .d x => match truD x with
    | some b => some (b, s)
    | none => none
  | .box => none
theorem RpA.isEmpty {K : PySem.W.Frag} {H : Hp} {ds : List PyData} {vs : List V} {F : List Addr} (h : RpA K H vs ds F) : vs.isEmpty = ds.isEmpty := by
  cases h <;> rfl
theorem truV_of {K : PySem.W.Frag} {H : Hp} {x : V} {d : PyData} {F : List Addr} {b : Bool} (h : Rp K H x d F) (e : truD d = some b) : TruV K x H b := by
  cases h with
  | non => cases e; rfl
  | bl c => cases e; rfl
  | int i => cases e; rfl
  | str s =>
    have e' : (if s.length ≤ sizeLine then some ((s.length : Int) != 0) else none) = some b := e
    split at e'
    · rename_i hz; cases e'; exact ⟨hz, rfl⟩
    · cases e'
  | tup q r => cases e; exact .inr (.inl ⟨_, q, by rw [r.isEmpty]⟩)
  | lst q r => cases e; exact .inl ⟨_, .of q, by rw [r.isEmpty]⟩
theorem tTru {a : Expr} {f : EF β} {m : List Nat} {mu : Bool} (ha : VE X B a f m mu) (he : ∀ whole, isTrue a X.env whole = (do let v ← whole; standAt a.pos; holding [v] (truthy v)) := by intro _; rfl) : VT X B a (fTr f) m mu := by
  refine PT_con (pt_truth ha he) ?_
  rintro σ H Q ⟨g, st, fp, rel, b, st', e, q⟩
  obtain ⟨v, fr, s, e1, e⟩ := bE_inv e
  split at e
  · split at e
    · cases e
      rename_i e2
      refine ⟨g, st, fp, rel, _, fr, st', e1, fun x F fp1 H1 r1 => ?_⟩
      exact ⟨b, truV_of r1.one e2, q fp1 H1 (r1.weak (fun _ h => h) (fun h => h) (by simp))⟩
    · cases e
  · cases e
/-! ### and, or, not as tests -/
def fAnd (f h : TF β) : TF β := fun st => bT (f st) fun b s => if b then h s else some (false, s)
def fOr (f h : TF β) : TF β := fun st => bT (f st) fun b s => if b then some (true, s) else h s
def fNot (f : TF β) : TF β := fun st => bT (f st) fun b s => some (!b, s)
variable {a b : Expr} {rest : List Expr} {pos : Pos} {f h : TF β} {m m' : List Nat} {mu mu' : Bool}
theorem wAnd1 (ha : VT X B a f m mu) : VW X B (.BoolOp .And [a] pos) f m mu := pw_and1 ha
theorem wOr1 (ha : VT X B a f m mu) : VW X B (.BoolOp .Or [a] pos) f m mu := pw_or1 ha
theorem wAnd (ha : VT X B a f m mu) (hb : VW X B (.BoolOp .And (b :: rest) pos) h m' mu') : VW X B (.BoolOp .And (a :: b :: rest) pos) (fAnd f h) (m ++ m') (mu || mu') := by
  refine PW_con (pw_and ha hb) ?_
  rintro σ H Q ⟨g, st, fp, rel, c, st', e, q⟩
  obtain ⟨d, s, e1, e⟩ := bT_inv e
  refine ⟨g, st, fp, rel, d, s, e1, fun fp1 H1 r1 => ?_⟩
  cases d with
  | true => exact ⟨g, s, fp1, r1.rel, c, st', e, fun fp2 H2 r2 => q fp2 H2 (by simpa using Res.app rel r1 r2 fun _ c hc => (nomatch hc))⟩
  | false =>
    cases e
    exact q fp1 H1 (r1.weak (fun _ h => List.mem_append_left _ h) (fun h => by rw [h]; rfl) (List.Sublist.refl _))
theorem wOr (ha : VT X B a f m mu) (hb : VW X B (.BoolOp .Or (b :: rest) pos) h m' mu') : VW X B (.BoolOp .Or (a :: b :: rest) pos) (fOr f h) (m ++ m') (mu || mu') := by
  refine PW_con (pw_or ha hb) ?_
  rintro σ H Q ⟨g, st, fp, rel, c, st', e, q⟩
  obtain ⟨d, s, e1, e⟩ := bT_inv e
  refine ⟨g, st, fp, rel, d, s, e1, fun fp1 H1 r1 => ?_⟩
  cases d with
  | false => exact ⟨g, s, fp1, r1.rel, c, st', e, fun fp2 H2 r2 => q fp2 H2 (by simpa using Res.app rel r1 r2 fun _ c hc => (nomatch hc))⟩
  | true =>
    cases e
    exact q fp1 H1 (r1.weak (fun _ h => List.mem_append_left _ h) (fun h => by rw [h]; rfl) (List.Sublist.refl _))
theorem tNt (ha : VT X B a f m mu) : VT X B (.UnaryOp .Not a pos) (fNot f) m mu := by
  refine PT_con (pt_not ha) ?_
  rintro σ H Q ⟨g, st, fp, rel, c, st', e, q⟩
  obtain ⟨d, s, e1, e⟩ := bT_inv e
  cases e
  exact ⟨g, st, fp, rel, d, st', e1, fun fp1 H1 r1 => q fp1 H1 r1⟩
/-! ### and, or, not as values; if -/
def fAndV (f h : EF β) : EF β := fun st => bE (f st) fun v _ s => match v with
  | .d (.bool b) => if b then h s else some (.d (.bool false), true, s)
  | _ => none
def fOrV (f h : EF β) : EF β := fun st => bE (f st) fun v _ s => match v with
  | .d (.bool b) => if b then some (.d (.bool true), true, s) else h s
  | _ => none
def fNotV (f : EF β) : EF β := fun st => bE (f st) fun v _ s => match v with
  | .d (.bool b) => some (.d (.bool (!b)), true, s)
  | _ => none
def fIf (c : TF β) (f h : EF β) : EF β := fun st => bT (c st) fun b s => if b then f s else h s
theorem Res.bl {K : PySem.W.Frag} {g : Gh} {st st' : S β} {fp fp' : Nat → List Addr} {σ : L2.St} {H H' : Hp} {cs : List Cm} (rel : Rel K B g st fp σ H) (r : Res K B g m mu st fp σ H st' fp' H' cs) (c : Bool) : Res K B g m mu st fp σ H st' fp' H' [⟨.bl c, .d (.bool c), true, []⟩] :=
  r.new (d := .bool c) (nt := false) (src := []) rel ⟨.refl _, .bl c, fun a ha => (nomatch ha), fun _ => ⟨List.nodup_nil, fun a ha => (nomatch ha)⟩⟩ fun a ha => (nomatch ha)
variable {k l : EF β}
theorem xOne {op : BoolOp} (h : VE X B a k m mu) : VE X B (.BoolOp op [a] pos) k m mu := pe_one h
theorem xAndV (ha : VE X B a k m mu) (hb : VE X B (.BoolOp .And (b :: rest) pos) l m' mu') : VE X B (.BoolOp .And (a :: b :: rest) pos) (fAndV k l) (m ++ m') (mu || mu') := by
  refine PE_con (pe_and ha hb) ?_
  rintro σ H Q ⟨g, st, fp, rel, c, fr, st', e, q⟩
  obtain ⟨v, fr1, s, e1, e⟩ := bE_inv e
  split at e
  · refine ⟨g, st, fp, rel, _, fr1, s, e1, fun x F fp1 H1 r1 => ?_⟩
    obtain ⟨rfl, rfl⟩ := rp_bl r1.one
    refine ⟨_, rfl, ?_⟩
    split at e
    · rename_i b' hb'
      rw [if_pos hb']
      exact ⟨g, s, fp1, r1.rel, c, fr, st', e, fun y G fp2 H2 r2 => q y G fp2 H2 (by simpa using Res.app rel (r1.weak (fun _ h => h) (fun h => h) (List.nil_sublist _)) r2 fun _ c hc => (nomatch hc))⟩
    · rename_i b' hb'
      rw [if_neg hb']
      cases e
      exact q (.bl false) [] fp1 H1 ((r1.weak (fun _ h => List.mem_append_left _ h) (fun h => by rw [h]; rfl) (List.Sublist.refl _)).bl rel false)
  · cases e
theorem xOrV (ha : VE X B a k m mu) (hb : VE X B (.BoolOp .Or (b :: rest) pos) l m' mu') : VE X B (.BoolOp .Or (a :: b :: rest) pos) (fOrV k l) (m ++ m') (mu || mu') := by
  refine PE_con (pe_or ha hb) ?_
  rintro σ H Q ⟨g, st, fp, rel, c, fr, st', e, q⟩
  obtain ⟨v, fr1, s, e1, e⟩ := bE_inv e
  split at e
  · refine ⟨g, st, fp, rel, _, fr1, s, e1, fun x F fp1 H1 r1 => ?_⟩
    obtain ⟨rfl, rfl⟩ := rp_bl r1.one
    refine ⟨_, rfl, ?_⟩
    split at e
    · rename_i b' hb'
      rw [if_pos hb']
      cases e
      exact q (.bl true) [] fp1 H1 ((r1.weak (fun _ h => List.mem_append_left _ h) (fun h => by rw [h]; rfl) (List.Sublist.refl _)).bl rel true)
    · rename_i b' hb'
      rw [if_neg hb']
      exact ⟨g, s, fp1, r1.rel, c, fr, st', e, fun y G fp2 H2 r2 => q y G fp2 H2 (by simpa using Res.app rel (r1.weak (fun _ h => h) (fun h => h) (List.nil_sublist _)) r2 fun _ c hc => (nomatch hc))⟩
  · cases e
theorem xNotV (ha : VE X B a k m mu) : VE X B (.UnaryOp .Not a pos) (fNotV k) m mu := by
  refine PE_con (pe_not ha) ?_
  rintro σ H Q ⟨g, st, fp, rel, c, fr, st', e, q⟩
  obtain ⟨v, fr1, s, e1, e⟩ := bE_inv e
  split at e
  · cases e
    refine ⟨g, st, fp, rel, _, fr1, _, e1, fun x F fp1 H1 r1 => ?_⟩
    obtain ⟨rfl, rfl⟩ := rp_bl r1.one
    exact ⟨_, rfl, q _ [] fp1 H1 (r1.bl rel _)⟩
  · cases e
theorem xIf {c : Expr} {m0 : List Nat} {mu0 : Bool} (hc : VT X B c f m0 mu0) (ha : VE X B a k m mu) (hb : VE X B b l m' mu') : VE X B (.IfExp c a b pos) (fIf f k l) (m0 ++ (m ++ m')) (mu0 || (mu || mu')) := by
  refine PE_con (pe_ifExp hc ha hb) ?_
  rintro σ H Q ⟨g, st, fp, rel, v, fr, st', e, q⟩
  obtain ⟨d, s, e1, e⟩ := bT_inv e
  refine ⟨g, st, fp, rel, d, s, e1, fun fp1 H1 r1 => ?_⟩
  cases d with
  | true => exact ⟨g, s, fp1, r1.rel, v, fr, st', e, fun y G fp2 H2 r2 => q y G fp2 H2 (by simpa using Res.app rel r1 (r2.weak (fun _ h => List.mem_append_left m' h) (fun h => by rw [h]; rfl) (List.Sublist.refl _)) fun _ c hc => (nomatch hc))⟩
  | false => exact ⟨g, s, fp1, r1.rel, v, fr, st', e, fun y G fp2 H2 r2 => q y G fp2 H2 (by simpa using Res.app rel r1 (r2.weak (fun _ h => List.mem_append_right m h) (fun h => by rw [h]; simp) (List.Sublist.refl _)) fun _ c hc => (nomatch hc))⟩
end
end Vv

set_option Elab.async false
set_option linter.all false
set_option maxRecDepth 100000
set_option autoImplicit false
set_option maxHeartbeats 4000000
/-! Vv, part 3: statements, loops, calls. -/
namespace Vv
open PySem PySem.Spec PyProof.Rows L2
variable {β : Type}
inductive Out (β : Type) where
  | nx (s : S β)
  | rt (v : R) (fr : Bool) (s : S β)
  | bk (s : S β)
  | ct (s : S β)
abbrev SF (β : Type) := S β → Option (Out β)
structure Ext (g : Gh) (st : S β) (fp : Nat → List Addr) (H : Hp) (st' : S β) (fp' : Nat → List Addr) (H' : Hp) : Prop where
  keep : ∀ a o, H a = some o → ¬ Own st fp a → a ∉ g.FB → a ∉ g.X → H' a = some o
  grow : ∀ a, Own st' fp' a → Own st fp a ∨ H a = none
  trk : ∀ a, H' a = none → H a = none
  tt : Tt H H'
theorem Ext.refl {g : Gh} {st : S β} {fp : Nat → List Addr} {H : Hp} : Ext g st fp H st fp H := ⟨fun _ _ e _ _ _ => e, fun _ h => .inl h, fun _ h => h, .refl H⟩
theorem Ext.trans {g : Gh} {st st1 st2 : S β} {fp fp1 fp2 : Nat → List Addr} {H H1 H2 : Hp} (a : Ext g st fp H st1 fp1 H1) (b : Ext g st1 fp1 H1 st2 fp2 H2) : Ext g st fp H st2 fp2 H2 :=
  ⟨fun c o e n1 n2 n3 => b.keep c o (a.keep c o e n1 n2 n3) (fun z => (a.grow c z).elim n1 fun z => by rw [e] at z; cases z) n2 n3,
   fun c z => (b.grow c z).elim (fun z => a.grow c z) fun z => .inr (a.trk c z), fun c z => a.trk c (b.trk c z), a.tt.trans b.tt⟩
structure Ret (K : PySem.W.Frag) (B : Bx β) (g : Gh) (st : S β) (fp : Nat → List Addr) (H : Hp) (v : R) (fr : Bool) (w : β) (x : V) (F : List Addr) (H' : Hp) : Prop where
  rr : RR K g.pb H' x v F
  bx : B.rep w H' g.pb g.FB
  fr : fr = true → F.Nodup ∧ ∀ a ∈ F, g.H0 a = none
  ar : ∀ a ∈ F, g.H0 a = none ∨ a ∈ g.Fa
  keep : ∀ a o, H a = some o → ¬ Own st fp a → a ∉ g.FB → a ∉ g.X → H' a = some o
  trk : ∀ a, H' a = none → H a = none
  tt : Tt H H'
theorem Ret.trans {K : PySem.W.Frag} {B : Bx β} {g : Gh} {st st1 : S β} {fp fp1 : Nat → List Addr} {H H1 H2 : Hp} {v : R} {fr : Bool} {w : β} {x : V} {F : List Addr} (a : Ext g st fp H st1 fp1 H1) (b : Ret K B g st1 fp1 H1 v fr w x F H2) : Ret K B g st fp H v fr w x F H2 :=
  ⟨b.rr, b.bx, b.fr, b.ar, fun c o e n1 n2 n3 => b.keep c o (a.keep c o e n1 n2 n3) (fun z => (a.grow c z).elim n1 fun z => by rw [e] at z; cases z) n2 n3, fun c z => a.trk c (b.trk c z), a.tt.trans b.tt⟩
def Fin (K : PySem.W.Frag) (B : Bx β) (g : Gh) (st : S β) (fp : Nat → List Addr) (H : Hp) (D : Ends) : Out β → Prop
  | .nx s => ∀ σ' fp' H', Rel K B g s fp' σ' H' → Ext g st fp H s fp' H' → D.nx σ' H'
  | .bk s => ∀ σ' fp' H', Rel K B g s fp' σ' H' → Ext g st fp H s fp' H' → D.bk σ' H'
  | .ct s => ∀ σ' fp' H', Rel K B g s fp' σ' H' → Ext g st fp H s fp' H' → D.ct σ' H'
  | .rt v fr s => ∀ x F H', Ret K B g st fp H v fr s.w x F H' → D.rt x H'
theorem Fin.after {K : PySem.W.Frag} {B : Bx β} {g : Gh} {st st1 : S β} {fp fp1 : Nat → List Addr} {H H1 : Hp} {D : Ends} {o : Out β} (a : Ext g st fp H st1 fp1 H1) (b : Fin K B g st fp H D o) : Fin K B g st1 fp1 H1 D o := by
  cases o with
  | nx s => exact fun σ' fp' H' r e => b σ' fp' H' r (a.trans e)
  | bk s => exact fun σ' fp' H' r e => b σ' fp' H' r (a.trans e)
  | ct s => exact fun σ' fp' H' r e => b σ' fp' H' r (a.trans e)
  | rt v fr s => exact fun x F H' r => b x F H' (Ret.trans a r)
def tS (K : PySem.W.Frag) (B : Bx β) (f : SF β) : TS := fun D σ H => ∃ g st fp, Rel K B g st fp σ H ∧ ∃ o, f st = some o ∧ Fin K B g st fp H D o
abbrev VS (X : Cx) (B : Bx β) (s : Stmt) (f : SF β) : Prop := PS X s (tS X.K B f)
abbrev VSs (X : Cx) (B : Bx β) (ss : List Stmt) (f : SF β) : Prop := PSs X ss (tS X.K B f)
section
variable {X : Cx}
theorem PS_con {s : Stmt} {t t' : TS} (h : PS X s t) (w : ∀ D σ H, t' D σ H → t D σ H) : PS X s t' := ⟨fun pins s σ H D I q => h.run pins s σ H D I (w D σ H q)⟩
theorem PSs_con {s : List Stmt} {t t' : TS} (h : PSs X s t) (w : ∀ D σ H, t' D σ H → t D σ H) : PSs X s t' := ⟨fun pins s σ H D I q => h.run pins s σ H D I (w D σ H q)⟩
end
theorem Res.ext {K : PySem.W.Frag} {B : Bx β} {g : Gh} {st st' : S β} {fp fp' : Nat → List Addr} {σ : L2.St} {H H' : Hp} {m : List Nat} {mu : Bool} {cs : List Cm} (r : Res K B g m mu st fp σ H st' fp' H' cs) : Ext g st fp H st' fp' H' :=
  ⟨r.keep, fun a o => .inl (r.own o), r.trk, r.tt⟩

/-! ### blocks -/
def bO (x : Option (Out β)) (k : S β → Option (Out β)) : Option (Out β) := match x with
  | some (.nx s) => k s
  | o => o
@[simp] theorem bO_nx (s : S β) (k : S β → Option (Out β)) : bO (some (.nx s)) k = k s := rfl
@[simp] theorem bO_rt (v : R) (fr : Bool) (s : S β) (k : S β → Option (Out β)) : bO (some (.rt v fr s)) k = some (.rt v fr s) := rfl
@[simp] theorem bO_bk (s : S β) (k : S β → Option (Out β)) : bO (some (.bk s)) k = some (.bk s) := rfl
@[simp] theorem bO_ct (s : S β) (k : S β → Option (Out β)) : bO (some (.ct s)) k = some (.ct s) := rfl
def fSq (f h : SF β) : SF β := fun st => bO (f st) h
def fPass : SF β := fun st => some (.nx st)
def fBrk : SF β := fun st => some (.bk st)
def fCnt : SF β := fun st => some (.ct st)
/-- never reached -/
def fNo : SF β := fun _ => none
section
variable {X : Cx} {B : Bx β} {st : Stmt} {rest : List Stmt} {f h : SF β} {pos : Pos}
theorem sNil : VSs X B [] (fPass (β := β)) := by
  refine PSs_con pss_nil ?_
  rintro D σ H ⟨g, st, fp, rel, o, e, q⟩
  cases e
  exact q σ fp H rel .refl
theorem sCons (h1 : VS X B st f) (h2 : VSs X B rest h) : VSs X B (st :: rest) (fSq f h) := by
  refine PSs_con (pss_cons h1 h2) ?_
  rintro D σ H ⟨g, st, fp, rel, o, e, q⟩
  unfold fSq at e
  cases e1 : f st with
  | none => rw [e1] at e; cases e
  | some o1 =>
    rw [e1] at e
    cases o1 with
    | nx s => exact ⟨g, st, fp, rel, .nx s, e1, fun σ1 fp1 H1 rel1 ext1 => ⟨g, s, fp1, rel1, o, e, q.after ext1⟩⟩
    | rt v fr s => cases e; exact ⟨g, st, fp, rel, _, e1, q⟩
    | bk s => cases e; exact ⟨g, st, fp, rel, _, e1, q⟩
    | ct s => cases e; exact ⟨g, st, fp, rel, _, e1, q⟩
theorem sOne (h1 : VS X B st f) : VSs X B [st] f := pss_one h1
theorem sPass : VS X B (.Pass pos) (fPass (β := β)) := by
  refine PS_con ps_pass ?_
  rintro D σ H ⟨g, st, fp, rel, o, e, q⟩
  cases e
  exact q σ fp H rel .refl
theorem sBrk : VS X B (.Break pos) (fBrk (β := β)) := by
  refine PS_con ps_break ?_
  rintro D σ H ⟨g, st, fp, rel, o, e, q⟩
  cases e
  exact q σ fp H rel .refl
theorem sCnt : VS X B (.Continue pos) (fCnt (β := β)) := by
  refine PS_con ps_continue ?_
  rintro D σ H ⟨g, st, fp, rel, o, e, q⟩
  cases e
  exact q σ fp H rel .refl
theorem sNo : VS X B st (fNo (β := β)) := by
  refine PS_con ps_never ?_
  rintro D σ H ⟨g, st, fp, rel, o, e, q⟩
  cases e
/-! ### return, if, an expression alone -/
def fRet (f : EF β) : SF β := fun st => bE (f st) fun v fr s => some (.rt v fr s)
def fRetN : SF β := fun st => some (.rt (.d .none) true st)
def fEx (f : EF β) : SF β := fun st => bE (f st) fun _ _ s => some (.nx s)
def fIfS (c : TF β) (f h : SF β) : SF β := fun st => bT (c st) fun b s => if b then f s else h s
theorem Res.ret {K : PySem.W.Frag} {g : Gh} {st st' : S β} {fp fp' : Nat → List Addr} {σ : L2.St} {H H' : Hp} {m : List Nat} {mu : Bool} {c : Cm} (rel : Rel K B g st fp σ H) (r : Res K B g m mu st fp σ H st' fp' H' [c]) : Ret K B g st fp H c.v c.fr st'.w c.x c.F H' := by
  have q := r.each c List.mem_cons_self
  have ar : ∀ a ∈ c.F, g.H0 a = none ∨ a ∈ g.Fa := fun a ha => by
    rcases q.src a ha with ⟨i, x, o, e, z⟩ | z | z | z
    · exact r.rel.ar i x o e a z
    · exact (rel.hd a z).2.2.2
    · exact .inl (rel.own_h0 z)
    · exact .inl (rel.h0 a z)
  exact ⟨q.rr, r.rel.bx, fun f => ⟨(q.fr f).1, fun a ha => ((q.fr f).2.2 a ha).elim (fun z => rel.own_h0 z) fun z => rel.h0 a z⟩, ar, r.keep, r.trk, r.tt⟩
theorem sRet {e : Expr} {f : EF β} {m : List Nat} {mu : Bool} (he : VE X B e f m mu) : VS X B (.Return (some e) pos) (fRet f) := by
  refine PS_con (ps_ret he) ?_
  rintro D σ H ⟨g, st, fp, rel, o, e, q⟩
  obtain ⟨v, fr, s, e1, e⟩ := bE_inv e
  cases e
  exact ⟨g, st, fp, rel, v, fr, s, e1, fun x F fp' H' r => q x F H' (Res.ret rel r)⟩
theorem sRetN : VS X B (.Return none pos) (fRetN (β := β)) := by
  refine PS_con ps_retN ?_
  rintro D σ H ⟨g, st, fp, rel, o, e, q⟩
  cases e
  exact q .non [] H ⟨.non, rel.bx, fun _ => ⟨List.nodup_nil, fun a ha => (nomatch ha)⟩, fun a ha => (nomatch ha), fun _ _ e _ _ _ => e, fun _ e => e, .refl H⟩
theorem sEx {e : Expr} {f : EF β} {m : List Nat} {mu : Bool} (he : VE X B e f m mu) (hs : swapsWith e none pos.line X.env = pure false := by rfl) : VS X B (.Expr e pos) (fEx f) := by
  refine PS_con (ps_expr he hs) ?_
  rintro D σ H ⟨g, st, fp, rel, o, e, q⟩
  obtain ⟨v, fr, s, e1, e⟩ := bE_inv e
  cases e
  exact ⟨g, st, fp, rel, v, fr, s, e1, fun x F fp' H' r => q σ fp' H' r.rel r.ext⟩
theorem sIf {c : Expr} {a b : List Stmt} {fc : TF β} {m : List Nat} {mu : Bool} (hc : VT X B c fc m mu) (ha : VSs X B a f) (hb : VSs X B b h) : VS X B (.If c a b pos) (fIfS fc f h) := by
  refine PS_con (ps_if hc ha hb) ?_
  rintro D σ H ⟨g, st, fp, rel, o, e, q⟩
  obtain ⟨d, s, e1, e⟩ := bT_inv e
  refine ⟨g, st, fp, rel, d, s, e1, fun fp1 H1 r1 => ?_⟩
  cases d with
  | true => exact ⟨g, s, fp1, r1.rel, o, e, q.after r1.ext⟩
  | false => exact ⟨g, s, fp1, r1.rel, o, e, q.after r1.ext⟩
end

/-! ### binding names -/
def unown : Sl → Sl
  | some (r, _) => some (r, false)
  | none => none
def frz (m : List Nat) : Nat → List Sl → List Sl
  | _, [] => []
  | i, s :: r => (if m.contains i then unown s else s) :: frz m (i + 1) r
def frzS (m : List Nat) (st : S β) : S β := ⟨frz m 0 st.sl, st.w⟩
theorem frz_get {m : List Nat} : ∀ {i j : Nat} {l : List Sl}, (frz m i l)[j]? = (l[j]?).map fun s => if m.contains (i + j) then unown s else s
  | _, _, [] => by simp [frz]
  | i, 0, s :: r => by simp [frz]
  | i, j + 1, s :: r => by
    show (frz m (i + 1) r)[j]? = _
    rw [frz_get, List.getElem?_cons_succ, show i + 1 + j = i + (j + 1) by omega]
theorem frz_length {m : List Nat} : ∀ {i : Nat} {l : List Sl}, (frz m i l).length = l.length
  | _, [] => rfl
  | i, s :: r => by rw [frz, List.length_cons, List.length_cons, frz_length]
theorem frz_some {m : List Nat} {l : List Sl} {j : Nat} {r : R} {o : Bool} (h : (frz m 0 l)[j]? = some (some (r, o))) : ∃ o', l[j]? = some (some (r, o')) ∧ (o = true → o' = true ∧ j ∉ m) := by
  rw [frz_get] at h
  cases e : l[j]? with
  | none => rw [e] at h; cases h
  | some s =>
    rw [e] at h
    simp only [Option.map_some, Option.some.injEq, Nat.zero_add] at h
    by_cases hc : m.contains j = true
    · rw [if_pos hc] at h
      cases s with
      | none => cases h
      | some p =>
        obtain ⟨r', o'⟩ := p
        unfold unown at h
        cases h
        exact ⟨o', rfl, fun z => by cases z⟩
    · rw [if_neg hc] at h
      subst h
      exact ⟨o, rfl, fun z => ⟨z, fun hj => hc (by simpa using hj)⟩⟩
section
variable {K : PySem.W.Frag} {B : Bx β} {g : Gh} {st st' : S β} {fp fp' : Nat → List Addr} {σ : L2.St} {H H' : Hp}
theorem Rel.frz (h : Rel K B g st fp σ H) (m : List Nat) : Rel K B g (frzS m st) fp σ H where
  len := by rw [h.len]; exact (frz_length).symm
  val := fun i r o e => let ⟨o', e', _⟩ := frz_some e; h.val i r o' e'
  nd := fun i r e => let ⟨o', e', k⟩ := frz_some e; h.nd i r (by rw [(k rfl).1] at e'; exact e')
  dj := fun i j r r' o ne e1 e2 => let ⟨o1, e1', k⟩ := frz_some e1; let ⟨o2, e2', _⟩ := frz_some e2; h.dj i j r r' o2 ne (by rw [(k rfl).1] at e1'; exact e1') e2'
  nb := fun i r o e => let ⟨o', e', _⟩ := frz_some e; h.nb i r o' e'
  ar := fun i r o e => let ⟨o', e', _⟩ := frz_some e; h.ar i r o' e'
  bx := h.bx
  xt := h.xt
  hd := fun a ha => let q := h.hd a ha; ⟨q.1, fun ⟨i, r, e, ha'⟩ => let ⟨o', e', k⟩ := frz_some e; q.2.1 ⟨i, r, by rw [(k rfl).1] at e'; exact e', ha'⟩, q.2.2⟩
  h0 := h.h0
theorem own_frz {m : List Nat} {a : Addr} (o : Own (frzS m st) fp a) : Own st fp a ∧ ∃ i r, i ∉ m ∧ st.sl[i]? = some (some (r, true)) ∧ a ∈ fp i := by
  obtain ⟨i, r, e, ha⟩ := o
  obtain ⟨o', e', k⟩ := frz_some e
  obtain ⟨rfl, ni⟩ := k rfl
  exact ⟨⟨i, r, e', ha⟩, i, r, ni, e', ha⟩
theorem ext_frz {m : List Nat} : Ext g st fp H (frzS m st) fp H := ⟨fun _ _ e _ _ _ => e, fun _ o => .inl (own_frz o).1, fun _ e => e, .refl H⟩
def setS (i : Nat) (v : R) (o : Bool) (st : S β) : S β := ⟨st.sl.set i (some (v, o)), st.w⟩
theorem set_some {l : List Sl} {i j : Nat} {v r : R} {o p : Bool} (h : (l.set i (some (v, o)))[j]? = some (some (r, p))) : (j = i ∧ r = v ∧ p = o ∧ i < l.length) ∨ (j ≠ i ∧ l[j]? = some (some (r, p))) := by
  by_cases e : j = i
  · subst e
    by_cases hl : j < l.length
    · rw [List.getElem?_set_self hl] at h
      cases h
      exact .inl ⟨rfl, rfl, rfl, hl⟩
    · rw [List.getElem?_eq_none (by simpa using hl)] at h
      cases h
  · rw [List.getElem?_set_ne (Ne.symm e)] at h
    exact .inr ⟨e, h⟩
theorem own_set {i : Nat} {v : R} {o : Bool} {F : List Addr} {a : Addr} (h : Own (setS i v o st) (fun j => if j = i then F else fp j) a) : (o = true ∧ a ∈ F) ∨ Own st fp a := by
  obtain ⟨j, r, e, ha⟩ := h
  have ha' : a ∈ (if j = i then F else fp j) := ha
  rcases set_some e with ⟨rfl, rfl, eo, hl⟩ | ⟨ne, e⟩
  · rw [if_pos rfl] at ha'; exact .inl ⟨eo.symm, ha'⟩
  · rw [if_neg ne] at ha'; exact .inr ⟨j, r, e, ha'⟩
/-- a name is bound -/
theorem Rel.bind {i : Nat} {x : V} {v : R} {o : Bool} {F : List Addr} (h : Rel K B g st fp σ H) (rr : RR K g.pb H x v F) (ho : o = true → F.Nodup ∧ (∀ a ∈ F, g.H0 a = none ∧ a ∉ g.hid) ∧ ∀ j r o', j ≠ i → st.sl[j]? = some (some (r, o')) → ∀ a ∈ F, a ∉ fp j)
    (hj : ∀ j r, j ≠ i → st.sl[j]? = some (some (r, true)) → ∀ a ∈ F, a ∉ fp j) (nb : ∀ a ∈ F, a ∉ g.FB ∧ a ∉ g.X) (ar : ∀ a ∈ F, g.H0 a = none ∨ a ∈ g.Fa) : Rel K B g (setS i v o st) (fun j => if j = i then F else fp j) (σ.set i (some x)) H where
  len := by simp [setS, h.len]
  val := fun j r p e => by
    rcases set_some e with ⟨rfl, rfl, rfl, hl⟩ | ⟨ne, e⟩
    · exact ⟨x, by rw [List.getElem?_set_self (by rw [h.len]; exact hl)], by rw [if_pos rfl]; exact rr⟩
    · obtain ⟨y, e1, r1⟩ := h.val j r p e
      exact ⟨y, by rw [List.getElem?_set_ne (Ne.symm ne)]; exact e1, by rw [if_neg ne]; exact r1⟩
  nd := fun j r e => by
    rcases set_some e with ⟨rfl, rfl, eo, hl⟩ | ⟨ne, e⟩
    · rw [if_pos rfl]
      obtain ⟨h1, h2, _⟩ := ho eo.symm
      exact ⟨h1, fun a ha => (h2 a ha).1⟩
    · rw [if_neg ne]; exact h.nd j r e
  dj := fun j k r r' p ne e1 e2 => by
    rcases set_some e1 with ⟨rfl, rfl, eo, hl⟩ | ⟨ne1, e1'⟩
    · rcases set_some e2 with ⟨rfl, _⟩ | ⟨ne2, e2⟩
      · exact absurd rfl ne
      · rw [if_pos rfl, if_neg ne2]
        exact (ho eo.symm).2.2 k r' p ne2 e2
    · rw [if_neg ne1]
      rcases set_some e2 with ⟨rfl, rfl, eo, hl⟩ | ⟨ne2, e2⟩
      · rw [if_pos rfl]
        exact fun a ha z => hj j r ne1 e1' a z ha
      · rw [if_neg ne2]; exact h.dj j k r r' p ne e1' e2
  nb := fun j r p e => by
    rcases set_some e with ⟨rfl, rfl, rfl, hl⟩ | ⟨ne, e⟩
    · rw [if_pos rfl]; exact nb
    · rw [if_neg ne]; exact h.nb j r p e
  ar := fun j r p e => by
    rcases set_some e with ⟨rfl, rfl, rfl, hl⟩ | ⟨ne, e⟩
    · rw [if_pos rfl]; exact ar
    · rw [if_neg ne]; exact h.ar j r p e
  bx := h.bx
  xt := h.xt
  hd := fun a ha => let q := h.hd a ha; ⟨q.1, fun z => (own_set z).elim (fun z => (((ho z.1).2.1 a z.2).2 ha)) q.2.1, q.2.2⟩
  h0 := h.h0
end

/-! ### targets -/
inductive Pat where
  | nm (i : Nat)
  | tp (ps : List Pat)
mutual
def Pat.ix : Pat → List Nat
  | .nm i => [i]
  | .tp ps => ixs ps
def ixs : List Pat → List Nat
  | [] => []
  | p :: ps => p.ix ++ ixs ps
end
mutual
def gP (K : PySem.W.Frag) : Pat → TG
  | .nm i => gName i
  | .tp ps => gTup K ps.length (gPs K ps)
def gPs (K : PySem.W.Frag) : List Pat → TGs
  | [] => gNil
  | p :: ps => gCons (gP K p) (gPs K ps)
end
mutual
def bindP : Pat → R → Bool → S β → Option (S β)
  | .nm i, v, fr, st => some (setS i v (fr || imR v) st)
  | .tp ps, .d (.tuple ds), fr, st => bindPs ps ds fr st
  | .tp _, _, _, _ => none
def bindPs : List Pat → List PyData → Bool → S β → Option (S β)
  | [], [], _, st => some st
  | p :: ps, d :: ds, fr, st => match bindP p (.d d) fr st with
    | some s => bindPs ps ds fr s
    | none => none
  | _, _, _, _ => none
end
section
variable {K : PySem.W.Frag} {B : Bx β} {g : Gh} {σ : L2.St} {H H' : Hp}
theorem bindPs_len : ∀ {ps : List Pat} {ds : List PyData} {fr : Bool} {st st2 : S β}, bindPs ps ds fr st = some st2 → ds.length = ps.length
  | [], [], _, _, _, _ => rfl
  | [], _ :: _, _, _, _, e => by cases e
  | _ :: _, [], _, _, _, e => by cases e
  | p :: ps, d :: ds, fr, st, st2, e => by
    have e' : (match bindP p (.d d) fr st with | some s => bindPs ps ds fr s | none => none) = some st2 := e
    split at e'
    · rw [List.length_cons, List.length_cons, bindPs_len e']
    · cases e'
/-- what a value to be bound must be; fr: nobody else has it -/
structure Bd (g : Gh) (st : S β) (fp : Nat → List Addr) (fr : Bool) (F : List Addr) : Prop where
  fr : fr = true → F.Nodup ∧ (∀ a ∈ F, g.H0 a = none ∧ a ∉ g.hid) ∧ ∀ j r o, st.sl[j]? = some (some (r, o)) → ∀ a ∈ F, a ∉ fp j
  al : ∀ a ∈ F, ¬ Own st fp a
  nb : ∀ a ∈ F, a ∉ g.FB ∧ a ∉ g.X
  ar : ∀ a ∈ F, g.H0 a = none ∨ a ∈ g.Fa
theorem Bd.sub {st : S β} {fp : Nat → List Addr} {fr : Bool} {F G : List Addr} (b : Bd g st fp fr F) (h : G.Sublist F) : Bd g st fp fr G :=
  ⟨fun f => let ⟨h1, h2, h3⟩ := b.fr f; ⟨h1.sublist h, fun a ha => h2 a (h.subset ha), fun j r o e a ha => h3 j r o e a (h.subset ha)⟩, fun a ha => b.al a (h.subset ha), fun a ha => b.nb a (h.subset ha), fun a ha => b.ar a (h.subset ha)⟩
/-- the end of a binding: the state, the heap as it was; the new own places are of F -/
def BdK (K : PySem.W.Frag) (B : Bx β) (g : Gh) (st : S β) (fp : Nat → List Addr) (σ : L2.St) (H : Hp) (F : List Addr) (fr : Bool) (ix : List Nat) (st2 : S β) (σ2 : L2.St) (H2 : Hp) : Prop :=
  H = H2 ∧ ∃ fp2, Rel K B g st2 fp2 σ2 H ∧ (∀ a, Own st2 fp2 a → Own st fp a ∨ (fr = true ∧ a ∈ F)) ∧ (∀ j r o, st2.sl[j]? = some (some (r, o)) → ∀ a ∈ fp2 j, (∃ j' r' o', st.sl[j']? = some (some (r', o')) ∧ a ∈ fp j') ∨ a ∈ F) ∧ st2.w = st.w ∧ (∀ j, j ∉ ix → σ2[j]? = σ[j]? ∧ st2.sl[j]? = st.sl[j]? ∧ fp2 j = fp j) ∧ (∀ j ∈ ix, ∀ a ∈ fp2 j, a ∈ F) ∧ σ2.length = σ.length
mutual
theorem bindP_ok : ∀ (p : Pat) (v : R) (fr : Bool) (st st2 : S β) (fp : Nat → List Addr) (σ : L2.St) (x : V) (F : List Addr) (Q : L2.St → Hp → Prop), Rel K B g st fp σ H → RR K g.pb H x v F → Bd g st fp fr F → bindP p v fr st = some st2 → (∀ σ2 H2, BdK K B g st fp σ H F fr p.ix st2 σ2 H2 → Q σ2 H2) → gP K p x σ H Q
  | .nm i, v, fr, st, st2, fp, σ, x, F, Q, rel, rr, b, e, q => by
    have e' : some (setS i v (fr || imR v) st) = some st2 := e
    cases e'
    show Q (σ.set i (some x)) H
    have hF : imR v = true → F = [] := fun z => rr.im z
    refine q _ H ⟨rfl, _, rel.bind rr (fun ho => ?_) (fun j r ne e a ha z => b.al a ha ⟨j, r, e, z⟩) b.nb b.ar, fun a o => ?_, fun j r o e a ha => ?_, rfl, fun j nj => ?_, fun j hj a ha => ?_, by simp⟩
    · rcases Bool.or_eq_true _ _ ▸ ho with z | z
      · obtain ⟨h1, h2, h3⟩ := b.fr z
        exact ⟨h1, h2, fun j r o _ => h3 j r o⟩
      · rw [hF z]; exact ⟨List.nodup_nil, fun a ha => (nomatch ha), fun _ _ _ _ _ a ha => (nomatch ha)⟩
    · rcases own_set o with ⟨z, ha⟩ | z
      · rcases Bool.or_eq_true _ _ ▸ z with z | z
        · exact .inr ⟨z, ha⟩
        · rw [hF z] at ha; cases ha
      · exact .inl z
    · rcases set_some e with ⟨rfl, rfl, _, _⟩ | ⟨ne, e⟩
      · rw [if_pos rfl] at ha; exact .inr ha
      · rw [if_neg ne] at ha; exact .inl ⟨j, r, o, e, ha⟩
    · have ne : j ≠ i := fun z => nj (by rw [z]; exact List.mem_cons_self)
      exact ⟨List.getElem?_set_ne (Ne.symm ne), List.getElem?_set_ne (Ne.symm ne), if_neg ne⟩
    · have e0 : j = i := List.mem_singleton.mp hj
      have ha' : a ∈ (if j = i then F else fp j) := ha
      rw [if_pos e0] at ha'; exact ha'
  | .tp ps, .d (.tuple ds), fr, st, st2, fp, σ, x, F, Q, rel, rr, b, e, q => by
    have e' : bindPs ps ds fr st = some st2 := e
    cases rr with
    | tup hq r =>
      exact ⟨_, _, rfl, hq, r.length.trans (bindPs_len e'), bindPs_ok ps ds fr st st2 fp σ _ F Q rel r b e' q⟩
  | .tp _, .d .none, _, _, _, _, _, _, _, _, _, _, _, e, _ => by cases e
  | .tp _, .d (.bool _), _, _, _, _, _, _, _, _, _, _, _, e, _ => by cases e
  | .tp _, .d (.int _), _, _, _, _, _, _, _, _, _, _, _, e, _ => by cases e
  | .tp _, .d (.str _), _, _, _, _, _, _, _, _, _, _, _, e, _ => by cases e
  | .tp _, .d (.list _), _, _, _, _, _, _, _, _, _, _, _, e, _ => by cases e
  | .tp _, .d (.dict _), _, _, _, _, _, _, _, _, _, _, _, e, _ => by cases e
  | .tp _, .box, _, _, _, _, _, _, _, _, _, _, _, e, _ => by cases e
theorem bindPs_ok : ∀ (ps : List Pat) (ds : List PyData) (fr : Bool) (st st2 : S β) (fp : Nat → List Addr) (σ : L2.St) (xs : List V) (F : List Addr) (Q : L2.St → Hp → Prop), Rel K B g st fp σ H → RpA K H xs ds F → Bd g st fp fr F → bindPs ps ds fr st = some st2 → (∀ σ2 H2, BdK K B g st fp σ H F fr (ixs ps) st2 σ2 H2 → Q σ2 H2) → gPs K ps xs σ H Q
  | [], [], fr, st, st2, fp, σ, xs, F, Q, rel, rr, b, e, q => by
    cases rr
    have e' : some st = some st2 := e
    cases e'
    exact ⟨rfl, q σ H ⟨rfl, fp, rel, fun a o => .inl o, fun j r o e a ha => .inl ⟨j, r, o, e, ha⟩, rfl, fun _ _ => ⟨rfl, rfl, rfl⟩, fun j hj => (nomatch hj), rfl⟩⟩
  | p :: ps, d :: ds, fr, st, st2, fp, σ, xs, F, Q, rel, rr, b, e, q => by
    cases rr with
    | @cons v vs d ds F G r s =>
      have e' : (match bindP p (.d d) fr st with | some s => bindPs ps ds fr s | none => none) = some st2 := e
      split at e'
      · rename_i s1 e1
        refine ⟨v, vs, rfl, bindP_ok p (.d d) fr st s1 fp σ v F _ rel r (b.sub (List.sublist_append_left _ _)) e1 fun σ1 H1 k1 => ?_⟩
        obtain ⟨rfl, fp1, rel1, o1, sl1, w1, x1, y1, l1⟩ := k1
        have bG := b.sub (List.sublist_append_right F G)
        have bF := b.sub (List.sublist_append_left F G)
        have djFG : fr = true → ∀ a ∈ G, a ∉ F := fun f a ha z => (List.nodup_append.mp (b.fr f).1).2.2 a z a ha rfl
        refine bindPs_ok ps ds fr s1 st2 fp1 σ1 vs G Q rel1 s ⟨fun f => ?_, fun a ha z => ?_, bG.nb, bG.ar⟩ e' fun σ2 H2 k2 => q σ2 H2 ?_
        · obtain ⟨h1, h2, h3⟩ := bG.fr f
          refine ⟨h1, h2, fun j r o e a ha z => ?_⟩
          rcases sl1 j r o e a z with ⟨j', r', o', e', z'⟩ | z'
          · exact h3 j' r' o' e' a ha z'
          · exact djFG f a ha z'
        · rcases o1 a z with z | ⟨f, z⟩
          · exact bG.al a ha z
          · exact djFG f a ha z
        · obtain ⟨rfl, fp2, rel2, o2, sl2, w2, x2, y2, l2⟩ := k2
          refine ⟨rfl, fp2, rel2, fun a o => ?_, fun j r o e a ha => ?_, w2.trans w1, fun j nj => ?_, fun j hj a ha => ?_, l2.trans l1⟩
          · rcases o2 a o with z | ⟨f, z⟩
            · rcases o1 a z with z | ⟨f, z⟩
              · exact .inl z
              · exact .inr ⟨f, List.mem_append_left _ z⟩
            · exact .inr ⟨f, List.mem_append_right _ z⟩
          · rcases sl2 j r o e a ha with ⟨j', r', o', e', z'⟩ | z'
            · rcases sl1 j' r' o' e' a z' with z | z
              · exact .inl z
              · exact .inr (List.mem_append_left _ z)
            · exact .inr (List.mem_append_right _ z')
          · have n1 : j ∉ p.ix := fun z => nj (List.mem_append_left _ z)
            have n2 : j ∉ ixs ps := fun z => nj (List.mem_append_right _ z)
            obtain ⟨a1, a2, a3⟩ := x1 j n1
            obtain ⟨b1, b2, b3⟩ := x2 j n2
            exact ⟨b1.trans a1, b2.trans a2, b3.trans a3⟩
          · by_cases h2 : j ∈ ixs ps
            · exact List.mem_append_right _ (y2 j h2 a ha)
            · rw [(x2 j h2).2.2] at ha
              exact List.mem_append_left _ (y1 j ((List.mem_append.mp hj).resolve_right h2) a ha)
      · cases e'
  | [], _ :: _, fr, st, st2, fp, σ, xs, F, Q, rel, rr, b, e, q => by cases e
  | _ :: _, [], fr, st, st2, fp, σ, xs, F, Q, rel, rr, b, e, q => by cases e
end
end
/-! ### assignments -/
def fAsg (m : List Nat) (p : Pat) (f : EF β) : SF β := fun st => bE (f st) fun v fr s => match bindP p v fr (if fr then s else frzS m s) with
  | some s => some (.nx s)
  | none => none
section
variable {K : PySem.W.Frag} {B : Bx β} {g : Gh} {st st' : S β} {fp fp' : Nat → List Addr} {σ : L2.St} {H H' : Hp}
/-- a result may be bound -/
theorem Res.bd {m : List Nat} {mu : Bool} {cs : List Cm} {c : Cm} (rel : Rel K B g st fp σ H) (r : Res K B g m mu st fp σ H st' fp' H' cs) (hc : c ∈ cs) : Bd g (if c.fr then st' else frzS m st') fp' c.fr c.F := by
  have q := r.each c hc
  refine ⟨fun f => ?_, fun a ha z => ?_, q.nb, fun a ha => ?_⟩
  · rw [f, if_pos rfl]
    obtain ⟨h1, h2, h3⟩ := q.fr f
    exact ⟨h1, fun a ha => (h3 a ha).elim (fun z => ⟨rel.own_h0 z, fun y => (rel.hd a y).2.1 z⟩) fun z => ⟨rel.h0 a z, fun y => (rel.hd a y).1 z⟩, h2⟩
  · cases hf : c.fr with
    | true =>
      rw [hf, if_pos rfl] at z
      obtain ⟨i, x, e, z⟩ := z
      exact (q.fr hf).2.1 i x true e a ha z
    | false =>
      rw [hf, if_neg Bool.false_ne_true] at z
      obtain ⟨_, i, x, ni, e, z⟩ := own_frz z
      exact q.ali i x e ni a ha z
  · rcases q.src a ha with ⟨i, x, o, e, z⟩ | z | z | z
    · exact r.rel.ar i x o e a z
    · exact (rel.hd a z).2.2.2
    · exact .inl (rel.own_h0 z)
    · exact .inl (rel.h0 a z)
theorem Rel.pre {fr : Bool} {m : List Nat} (h : Rel K B g st fp σ H) : Rel K B g (if fr then st else frzS m st) fp σ H := by
  cases fr with
  | true => exact h
  | false => exact h.frz m
theorem own_pre {fr : Bool} {m : List Nat} {a : Addr} (o : Own (if fr then st else frzS m st) fp a) : Own st fp a := by
  cases fr with
  | true => exact o
  | false => exact (own_frz o).1
/-- behind an evaluation and a binding -/
theorem Res.bound {m : List Nat} {mu : Bool} {cs : List Cm} {c : Cm} {st2 : S β} {σ2 : L2.St} {H2 : Hp} {ix : List Nat} (rel : Rel K B g st fp σ H) (r : Res K B g m mu st fp σ H st' fp' H' cs) (hc : c ∈ cs) (k : BdK K B g (if c.fr then st' else frzS m st') fp' σ H' c.F c.fr ix st2 σ2 H2) :
    H2 = H' ∧ ∃ fp2, Rel K B g st2 fp2 σ2 H' ∧ Ext g st fp H st2 fp2 H' := by
  obtain ⟨rfl, fp2, rel2, o2, _, w2, _⟩ := k
  refine ⟨rfl, fp2, rel2, r.keep, fun a o => ?_, r.trk, r.tt⟩
  rcases o2 a o with z | ⟨f, z⟩
  · exact .inl (r.own (own_pre z))
  · exact ((r.each c hc).fr f).2.2 a z
end
section
variable {X : Cx} {B : Bx β} {pos : Pos}
theorem asg_con {e : Expr} {f : EF β} {m : List Nat} {mu : Bool} {p : Pat} (D : Ends) (σ : L2.St) (H : Hp) (q : tS X.K B (fAsg m p f) D σ H) : tAsg (tE X.K B f m mu) (gP X.K p) D σ H := by
  obtain ⟨g, st, fp, rel, o, e, q⟩ := q
  obtain ⟨v, fr, s, e1, e⟩ := bE_inv e
  split at e
  · rename_i s2 e2
    cases e
    refine ⟨g, st, fp, rel, v, fr, s, e1, fun x F fp1 H1 r1 => ?_⟩
    have hc : (⟨x, v, fr, F⟩ : Cm) ∈ [(⟨x, v, fr, F⟩ : Cm)] := List.mem_cons_self
    refine bindP_ok p v fr _ s2 fp1 σ x F _ r1.rel.pre r1.one (r1.bd rel hc) e2 fun σ2 H2 k => ?_
    obtain ⟨rfl, fp2, rel2, ext2⟩ := Res.bound (c := ⟨x, v, fr, F⟩) rel r1 hc k
    exact q σ2 fp2 H2 rel2 ext2
  · cases e
theorem sAsg {tg e : Expr} {f : EF β} {m : List Nat} {mu : Bool} {p : Pat} (he : VE X B e f m mu) (hg : PG X tg (gP X.K p)) (hs : swapsWithSole [tg] e pos.line X.env = pure false := by rfl) (hw : swappedStores [tg] e X.env = pure none := by rfl)
    (h1 : (assignEach [tg] X.env).map (·.2) = [assign tg X.env] := by rfl) : VS X B (.Assign [tg] e pos) (fAsg m p f) := PS_con (ps_asg he hg hs hw h1) fun D σ H q => asg_con (e := e) D σ H q
theorem sSet {i : Nat} {x : Str} {e : Expr} {f : EF β} {m : List Nat} {mu : Bool} {pos' : Pos} (hN : X.N.Nodup) (hi : X.N[i]? = some x) (hx : Loc X.env.scope x) (he : VE X B e f m mu) (hs : swapsWith e (some (.Name x pos')) pos.line X.env = pure false := by rfl)
    (hf : X.fn x = true ∨ X.env.scope.names.lookup x = some .local := by first | exact .inl rfl | exact .inr rfl | assumption) : VS X B (.Assign [.Name x pos'] e pos) (fAsg m (.nm i) f) := PS_con (ps_set hN hi hx he hs hf) fun D σ H q => asg_con (e := e) D σ H q
end
end Vv

set_option Elab.async false
set_option linter.all false
set_option maxRecDepth 100000
set_option autoImplicit false
set_option maxHeartbeats 4000000
/-! Vv, part 4: loops, comprehensions, calls. -/
namespace Vv
open PySem PySem.Spec PyProof.Rows L2
variable {β : Type}
/-! ### while -/
def bL (x : Option (Out β)) (k : S β → Option (Out β)) : Option (Out β) := match x with
  | some (.nx s) => k s
  | some (.ct s) => k s
  | some (.bk s) => some (.nx s)
  | o => o
@[simp] theorem bL_nx (s : S β) (k : S β → Option (Out β)) : bL (some (.nx s)) k = k s := rfl
@[simp] theorem bL_ct (s : S β) (k : S β → Option (Out β)) : bL (some (.ct s)) k = k s := rfl
@[simp] theorem bL_bk (s : S β) (k : S β → Option (Out β)) : bL (some (.bk s)) k = some (.nx s) := rfl
@[simp] theorem bL_rt (v : R) (fr : Bool) (s : S β) (k : S β → Option (Out β)) : bL (some (.rt v fr s)) k = some (.rt v fr s) := rfl
def fWh (c : TF β) (b : SF β) : Nat → SF β
  | 0 => fun _ => none
  | n + 1 => fun st => bT (c st) fun d s => if d then bL (b s) (fWh c b n) else some (.nx s)
/-- the turns that are looked at -/
@[irreducible] def fuel : Nat := 1000000
def fWhile (c : TF β) (b : SF β) : SF β := fWh c b fuel
section
variable {X : Cx} {B : Bx β} {pos : Pos}
/-- a body's end, where a loop goes on -/
theorem loop_fin {K : PySem.W.Frag} {g : Gh} {st : S β} {fp : Nat → List Addr} {H : Hp} {D : Ends} {k : S β → Option (Out β)} {o o1 : Out β} {N : L2.St → Hp → Prop} (e : bL (some o1) k = some o) (q : Fin K B g st fp H D o)
    (hN : ∀ s σ' fp' H', k s = some o → Rel K B g s fp' σ' H' → Ext g st fp H s fp' H' → N σ' H') : Fin K B g st fp H { D with nx := N, ct := N, bk := D.nx } o1 := by
  cases o1 with
  | nx s => exact fun σ' fp' H' r x => hN s σ' fp' H' e r x
  | ct s => exact fun σ' fp' H' r x => hN s σ' fp' H' e r x
  | bk s => cases e; exact fun σ' fp' H' r x => q σ' fp' H' r x
  | rt v fr s => cases e; exact fun x F H' r => q x F H' r
theorem sWhile {c : Expr} {body : List Stmt} {fc : TF β} {fb : SF β} {m : List Nat} {mu : Bool} (hp : PassesOwn (model X.prog X.w) X.A X.env X.xe) (hc : VT X B c fc m mu) (hb : VSs X B body fb) : VS X B (.While c body [] pos) (fWhile fc fb) := by
  refine PS_con (ps_while hp hc hb) ?_
  rintro D σ H ⟨g, st, fp, rel, o, e, q⟩
  refine ⟨fun n σ1 H1 => ∃ s1 fp1, Rel X.K B g s1 fp1 σ1 H1 ∧ Ext g st fp H s1 fp1 H1 ∧ fWh fc fb n s1 = some o, ⟨fuel, st, fp, rel, .refl, e⟩, ?_⟩
  rintro n σ1 H1 ⟨s1, fp1, rel1, ext1, e1⟩
  match n, e1 with
  | n + 1, e1 =>
    obtain ⟨b, s2, e2, e1⟩ := bT_inv e1
    refine ⟨g, s1, fp1, rel1, b, s2, e2, fun fp2 H2 r2 => ?_⟩
    cases b with
    | false =>
      rw [if_neg Bool.false_ne_true] at e1 ⊢
      cases e1
      exact q σ1 fp2 H2 r2.rel (ext1.trans r2.ext)
    | true =>
      rw [if_pos rfl] at e1 ⊢
      refine ⟨_, fun σ' H' h => ⟨n, Nat.lt_succ_self n, h⟩, ?_⟩
      cases e3 : fb s2 with
      | none => rw [e3] at e1; cases e1
      | some o1 =>
        rw [e3] at e1
        refine ⟨g, s2, fp2, r2.rel, o1, e3, ?_⟩
        exact loop_fin e1 (q.after (ext1.trans r2.ext)) fun s σ' fp' H' e r x => ⟨s, fp', r, (ext1.trans r2.ext).trans x, e⟩
end

/-! ### what is walked -/
abbrev IF (β : Type) := S β → Option (List PyData × Bool × S β)
structure IterOk (K : PySem.W.Frag) (J : It) (ds : List PyData) (Fh : List Addr) (L : Hp → Prop) : Prop where
  move : ∀ H1 H2, L H1 → Tt H1 H2 → (∀ a ∈ Fh, ∀ o, H1 a = some o → H2 a = some o) → L H2
  go : ∀ i H, L H → i < ds.length → J.go i H
  stop : ∀ i H, L H → ds.length ≤ i → J.stop i H
  yld : ∀ i d H x H', L H → ds[i]? = some d → J.yld i H x H' → Same H H' ∧ ∃ F, Rp K H' x d F ∧ F.Sublist Fh
def tI (K : PySem.W.Frag) (B : Bx β) (f : IF β) (m : List Nat) (mu : Bool) : TI := fun σ H R => ∃ g st fp, Rel K B g st fp σ H ∧ ∃ ds fr st', f st = some (ds, fr, st') ∧
  ∀ J fp' H' c L, Res K B g m mu st fp σ H st' fp' H' [c] → c.fr = fr → IterOk K J ds c.F L → L H' → R J H'
abbrev VI (X : Cx) (B : Bx β) (tg e : Expr) (f : IF β) (m : List Nat) (mu : Bool) : Prop := PI X tg e (tI X.K B f m mu)
theorem PI_con {X : Cx} {tg e : Expr} {t t' : TI} (h : PI X tg e t) (w : ∀ σ H R, t' σ H R → t σ H R) : PI X tg e t' := ⟨fun pins s σ H R I q => h.run pins s σ H R I (w σ H R q)⟩
def bI {γ : Type} (x : Option (List PyData × Bool × S β)) (k : List PyData → Bool → S β → Option γ) : Option γ := match x with
  | some (ds, fr, s) => k ds fr s
  | none => none
@[simp] theorem bI_some {γ : Type} (ds : List PyData) (fr : Bool) (s : S β) (k : List PyData → Bool → S β → Option γ) : bI (some (ds, fr, s)) k = k ds fr s := rfl
theorem bI_inv {γ : Type} {x : Option (List PyData × Bool × S β)} {k : List PyData → Bool → S β → Option γ} {z : γ} (h : bI x k = some z) : ∃ ds fr s, x = some (ds, fr, s) ∧ k ds fr s = some z := by
  match x, h with
  | some (ds, fr, s), h => exact ⟨ds, fr, s, rfl, h⟩
/-- range(n), range(a, b) -/
def rgI (a : Int) (n : Nat) : List PyData := (List.range n).map fun (i : Nat) => PyData.int (a + (i : Int))
def rgB (i : Int) : Bool := decide (-(2 ^ 62) ≤ i ∧ i < 2 ^ 62)
def iR1 (f : AF β) : IF β := fun st => bA (f st) fun vs s => match toDs vs with
  | some [.int n] => gd (rgB n) (some (rgI 0 n.toNat, true, s))
  | _ => none
def iR2 (f : AF β) : IF β := fun st => bA (f st) fun vs s => match toDs vs with
  | some [.int a, .int b] => gd (rgB a && rgB b) (some (rgI a (b - a).toNat, true, s))
  | _ => none
theorem rgI_length (a : Int) (n : Nat) : (rgI a n).length = n := by simp [rgI]
theorem rgI_get {a : Int} {n i : Nat} {d : PyData} (h : (rgI a n)[i]? = some d) : d = .int (a + i) := by
  unfold rgI at h
  rw [List.getElem?_map] at h
  cases e : (List.range n)[i]? with
  | none => rw [e] at h; cases h
  | some j =>
    rw [e] at h
    obtain ⟨hl, ej⟩ := List.getElem?_eq_some_iff.mp e
    rw [List.getElem_range] at ej
    subst ej
    exact (Option.some.inj h).symm
theorem iter_range {K : PySem.W.Frag} {a : Int} {n : Nat} : IterOk K (Itr a n) (rgI a n) [] fun _ => True :=
  ⟨fun _ _ _ _ _ => trivial, fun i H _ h => by rw [rgI_length] at h; exact h, fun i H _ h => by rw [rgI_length] at h; exact h, fun i d H x H' _ e y => by
    obtain ⟨rfl, rfl⟩ := y
    rw [rgI_get e]
    exact ⟨.refl _, [], .int _, List.nil_sublist _⟩⟩
/-- the pieces of a list that holds data -/
theorem map_v_ints : ∀ {cs : List Cm} {ds : List PyData}, cs.map (·.v) = ds.map R.d → cs.length = ds.length
  | cs, ds, h => by have := congrArg List.length h; simpa using this
section
variable {X : Cx} {B : Bx β} {pos p : Pos} {tg : Expr}
theorem Res.dummy {K : PySem.W.Frag} {g : Gh} {st st' : S β} {fp fp' : Nat → List Addr} {σ : L2.St} {H H' : Hp} {m : List Nat} {mu : Bool} {cs : List Cm} (rel : Rel K B g st fp σ H) (r : Res K B g m mu st fp σ H st' fp' H' cs) : Res K B g m mu st fp σ H st' fp' H' [⟨.bl true, .d (.bool true), true, []⟩] := r.bl rel true
theorem iRg1 {a : Expr} {f : AF β} {m : List Nat} {mu : Bool} (hg : Gl X "range") (hm : X.mg "range" = none) (ha : VA X B [a] f m mu) (hs : starEach [a] X.env = [(false, eval a X.env)] := by rfl) : VI X B tg (.Call (.Name "range" p) [a] [] pos) (iR1 f) m mu := by
  refine PI_con (pi_range1 hg hm ha hs) ?_
  rintro σ H R ⟨g, st, fp, rel, ds, fr, st', e, q⟩
  obtain ⟨vs, s, e1, e⟩ := bA_inv e
  split at e
  · rename_i n e2
    obtain ⟨hb, e⟩ := gd_inv e
    cases e
    refine ⟨g, st, fp, rel, vs, _, e1, fun cs fp1 H1 r1 hc => ?_⟩
    rw [← hc] at e2
    have hv := toDs_inv e2
    have hr := rpA_of (fun c hc => (r1.each c hc).rr) hv
    generalize cs.map (fun c => c.x) = xs at hr ⊢
    generalize (cs.map (fun c => c.F)).flatten = FF at hr
    cases hr with
    | cons h1 h2 =>
      cases h2
      obtain ⟨rfl, rfl⟩ := rp_int h1
      have hb' := of_decide_eq_true hb
      exact ⟨n, rfl, hb'.1, hb'.2, q _ fp1 H1 ⟨.bl true, .d (.bool true), true, []⟩ _ (r1.dummy rel) rfl iter_range trivial⟩
  · cases e
theorem iRg2 {a b : Expr} {f : AF β} {m : List Nat} {mu : Bool} (hg : Gl X "range") (hm : X.mg "range" = none) (ha : VA X B [a, b] f m mu) (hs : starEach [a, b] X.env = [(false, eval a X.env), (false, eval b X.env)] := by rfl) (hs2 : starEach [b] X.env = [(false, eval b X.env)] := by rfl) : VI X B tg (.Call (.Name "range" p) [a, b] [] pos) (iR2 f) m mu := by
  refine PI_con (pi_range2 hg hm ha hs hs2) ?_
  rintro σ H R ⟨g, st, fp, rel, ds, fr, st', e, q⟩
  obtain ⟨vs, s, e1, e⟩ := bA_inv e
  split at e
  · rename_i n k e2
    obtain ⟨hb, e⟩ := gd_inv e
    cases e
    refine ⟨g, st, fp, rel, vs, _, e1, fun cs fp1 H1 r1 hc => ?_⟩
    rw [← hc] at e2
    have hv := toDs_inv e2
    have hr := rpA_of (fun c hc => (r1.each c hc).rr) hv
    generalize cs.map (fun c => c.x) = xs at hr ⊢
    generalize (cs.map (fun c => c.F)).flatten = FF at hr
    cases hr with
    | cons h1 h2 =>
      cases h2 with
      | cons h3 h4 =>
        cases h4
        obtain ⟨rfl, rfl⟩ := rp_int h1
        obtain ⟨rfl, rfl⟩ := rp_int h3
        rw [Bool.and_eq_true] at hb
        have hb1 := of_decide_eq_true hb.1
        have hb2 := of_decide_eq_true hb.2
        exact ⟨n, k, rfl, ⟨hb1.1, hb1.2, hb2.1, hb2.2⟩, q _ fp1 H1 ⟨.bl true, .d (.bool true), true, []⟩ _ (r1.dummy rel) rfl iter_range trivial⟩
  · cases e
/-- a list, a tuple -/
def iLs (f : EF β) : IF β := fun st => bE (f st) fun v fr s => match v with
  | .d (.list ds) => some (ds, fr, s)
  | _ => none
def iTp (f : EF β) : IF β := fun st => bE (f st) fun v fr s => match v with
  | .d (.tuple ds) => some (ds, fr, s)
  | _ => none
theorem RpA.getSub {K : PySem.W.Frag} {H : Hp} : ∀ {ds : List PyData} {vs : List V} {F : List Addr} {k : Nat} {d : PyData}, RpA K H vs ds F → ds[k]? = some d → ∃ v G, vs[k]? = some v ∧ Rp K H v d G ∧ G.Sublist F
  | [], _, _, k, d, h, e => by simp at e
  | x :: ds, _, _, 0, d, h, e => by
    cases h with
    | cons r s =>
      simp at e; subst e
      exact ⟨_, _, rfl, r, List.sublist_append_left _ _⟩
  | x :: ds, _, _, k + 1, d, h, e => by
    cases h with
    | cons r s =>
      obtain ⟨v, G, h1, h2, h3⟩ := RpA.getSub s (k := k) (d := d) (by simpa using e)
      exact ⟨v, G, by simpa using h1, h2, h3.trans (List.sublist_append_right _ _)⟩
theorem iter_list {K : PySem.W.Frag} {a : Addr} {xs : List V} {ds : List PyData} {F : List Addr} : IterOk K (Itl K a) ds (a :: F) fun H => H a = some (.lst xs) ∧ RpA K H xs ds F :=
  ⟨fun H1 H2 h t k => ⟨k a List.mem_cons_self _ h.1, h.2.move t _ _ _ fun b hb => k b (List.mem_cons_of_mem _ hb)⟩,
   fun i H h hl => by
    obtain ⟨v, G, e, _⟩ := RpA.get h.2 (List.getElem?_eq_getElem hl)
    exact ⟨xs, v, SqL.of h.1, e⟩,
   fun i H h hl => ⟨xs, SqL.of h.1, by rw [h.2.length]; exact hl⟩,
   fun i d H x H' h e y => by
    obtain ⟨rfl, y⟩ := y
    obtain ⟨v, G, e1, r, s⟩ := RpA.getSub h.2 e
    have := y xs (SqL.of h.1)
    rw [e1] at this
    cases this
    exact ⟨.refl _, G, r, s.trans (List.sublist_cons_self _ _)⟩⟩
theorem iter_tup {K : PySem.W.Frag} {a : Addr} {xs : List V} {ds : List PyData} {F : List Addr} : IterOk K (Itt K a) ds F fun H => SqT K H a xs ∧ RpA K H xs ds F :=
  ⟨fun H1 H2 h t k => ⟨t.sq h.1, h.2.move t _ _ _ k⟩,
   fun i H h hl => by
    obtain ⟨v, G, e, _⟩ := RpA.get h.2 (List.getElem?_eq_getElem hl)
    exact ⟨xs, v, h.1, e⟩,
   fun i H h hl => ⟨xs, h.1, by rw [h.2.length]; exact hl⟩,
   fun i d H x H' h e y => by
    obtain ⟨rfl, y⟩ := y
    obtain ⟨v, G, e1, r, s⟩ := RpA.getSub h.2 e
    have := y xs h.1
    rw [e1] at this
    cases this
    exact ⟨.refl _, G, r, s⟩⟩
theorem iList' {e : Expr} {f : EF β} {m : List Nat} {mu : Bool} (he : VE X B e f m mu) : VI X B tg e (iLs f) m mu := by
  refine PI_con (pi_list he) ?_
  rintro σ H R ⟨g, st, fp, rel, ds, fr, st', e, q⟩
  obtain ⟨v, fr', s, e1, e⟩ := bE_inv e
  split at e
  · cases e
    refine ⟨g, st, fp, rel, _, fr, _, e1, fun x F fp1 H1 r1 => ?_⟩
    have rr := r1.one
    cases rr with
    | lst h1 h2 => exact ⟨_, rfl, ⟨_, SqL.of h1⟩, q _ fp1 H1 _ _ r1 rfl iter_list ⟨h1, h2⟩⟩
  · cases e
theorem iTup' {e : Expr} {f : EF β} {m : List Nat} {mu : Bool} (he : VE X B e f m mu) : VI X B tg e (iTp f) m mu := by
  refine PI_con (pi_tup he) ?_
  rintro σ H R ⟨g, st, fp, rel, ds, fr, st', e, q⟩
  obtain ⟨v, fr', s, e1, e⟩ := bE_inv e
  split at e
  · cases e
    refine ⟨g, st, fp, rel, _, fr, _, e1, fun x F fp1 H1 r1 => ?_⟩
    have rr := r1.one
    cases rr with
    | tup h1 h2 => exact ⟨_, rfl, ⟨_, h1⟩, q _ fp1 H1 _ _ r1 rfl iter_tup ⟨h1, h2⟩⟩
  · cases e
end

/-! ### for -/
def fFl (p : Pat) (b : SF β) : List PyData → SF β
  | [] => fun st => some (.nx st)
  | d :: ds => fun st => match bindP p (.d d) false st with
    | some s => bL (b s) (fFl p b ds)
    | none => none
def fFor (m : List Nat) (p : Pat) (i : IF β) (b : SF β) : SF β := fun st => bI (i st) fun ds fr s => fFl p b ds (if fr then s else frzS m s)
section
variable {X : Cx} {B : Bx β} {pos : Pos} {tg : Expr}
theorem sFor {iter : Expr} {body : List Stmt} {p : Pat} {fi : IF β} {fb : SF β} {m : List Nat} {mu : Bool} (hp : PassesOwn (model X.prog X.w) X.A X.env X.xe) (hc : X.calm = true) (hi : VI X B tg iter fi m mu) (hg : PG X tg (gP X.K p)) (hb : VSs X B body fb)
    (hs : ∀ x, foldedSetIterable iter X.env x = pure x := by intro _; rfl) : VS X B (.For tg iter body [] pos) (fFor m p fi fb) := by
  refine PS_con (ps_for hp hc hi hg hb hs) ?_
  rintro D σ H ⟨g, st, fp, rel, o, e, q⟩
  obtain ⟨ds, fr, s0, e0, e⟩ := bI_inv e
  refine ⟨g, st, fp, rel, ds, fr, s0, e0, fun J fp1 H1 c L r1 hfr hI hL => ?_⟩
  have bd := r1.bd rel (c := c) List.mem_cons_self
  rw [hfr] at bd
  generalize hs1 : (if fr then s0 else frzS m s0) = s1 at e bd
  have rel1 : Rel X.K B g s1 fp1 σ H1 := by rw [← hs1]; exact r1.rel.pre
  have ext1 : Ext g st fp H s1 fp1 H1 := ⟨r1.keep, fun a o => .inl (r1.own (own_pre (fr := fr) (m := m) (by rw [hs1]; exact o))), r1.trk, r1.tt⟩
  refine ⟨fun i n σ' H' => n = ds.length - i ∧ i ≤ ds.length ∧ ∃ s' fp', Rel X.K B g s' fp' σ' H' ∧ Ext g s1 fp1 H1 s' fp' H' ∧ L H' ∧ fFl p fb (ds.drop i) s' = some o, ⟨ds.length, by simp, Nat.zero_le _, s1, fp1, rel1, .refl, hL, e⟩, ?_⟩
  rintro i n σ' H' ⟨rfl, hi, s', fp', rel', ext', hL', e'⟩
  by_cases hlt : i < ds.length
  · refine .inr ⟨hI.go i H' hL' hlt, fun σ2 H2 => ∃ s2 fp2, Rel X.K B g s2 fp2 σ2 H2 ∧ Ext g s1 fp1 H1 s2 fp2 H2 ∧ L H2 ∧ fFl p fb (ds.drop (i + 1)) s2 = some o, fun σ2 H2 h => ⟨ds.length - (i + 1), by omega, rfl, hlt, h⟩, fun x H2 y => ?_⟩
    rw [List.drop_eq_getElem_cons hlt] at e'
    have e' : (match bindP p (.d ds[i]) false s' with | some s => bL (fb s) (fFl p fb (ds.drop (i + 1))) | none => none) = some o := e'
    split at e'
    · rename_i s2 e2
      obtain ⟨sm, F, rp, sub⟩ := hI.yld i ds[i] H' x H2 hL' (List.getElem?_eq_getElem hlt) y
      have notOwn : ∀ a ∈ c.F, ¬ Own s' fp' a := fun a ha z => by
        obtain ⟨xs, t⟩ := (r1.each c List.mem_cons_self).rr.trk a ha
        rcases ext'.grow a z with z | z
        · exact bd.al a ha z
        · rw [t] at z; cases z
      have bd2 : Bd g s' fp' false F := ⟨fun z => (by cases z), fun a ha => notOwn a (sub.subset ha), fun a ha => bd.nb a (sub.subset ha), fun a ha => bd.ar a (sub.subset ha)⟩
      have keepH : ∀ a ∈ c.F, ∀ o, H' a = some o → H2 a = some o := fun a _ o e => sm a o e
      have hL2 : L H2 := hI.move H' H2 hL' (.same sm) keepH
      refine bindP_ok p (.d ds[i]) false s' s2 fp' σ' x F _ (rel'.same sm) rp bd2 e2 fun σ3 H3 k => ?_
      obtain ⟨rfl, fp3, rel3, o3, _, w3, _⟩ := k
      have ext3 : Ext g s' fp' H' s2 fp3 H2 := ⟨fun a o e _ _ _ => sm a o e, fun a z => (o3 a z).elim .inl (fun z => (by cases z.1)), fun a z => sm.free z, .same sm⟩
      cases e4 : fb s2 with
      | none => rw [e4] at e'; cases e'
      | some o1 =>
        rw [e4] at e'
        refine ⟨g, s2, fp3, rel3, o1, e4, loop_fin e' (q.after (ext1.trans (ext'.trans ext3))) fun s4 σ4 fp4 H4 e r4 x4 => ⟨s4, fp4, r4, ext'.trans (ext3.trans x4), ?_, e⟩⟩
        refine hI.move H2 H4 hL2 x4.tt fun a ha o e => x4.keep a o e (fun z => ?_) (bd.nb a ha).1 (bd.nb a ha).2
        rcases o3 a z with z | z
        · exact notOwn a ha z
        · cases z.1
    · cases e'
  · have e1 : i = ds.length := by omega
    subst e1
    refine .inl ⟨hI.stop _ H' hL' (Nat.le_refl _), ?_⟩
    rw [List.drop_length] at e'
    cases e'
    exact q σ' fp' H' rel' (ext1.trans ext')
end
end Vv

set_option Elab.async false
set_option linter.all false
set_option maxRecDepth 100000
set_option autoImplicit false
set_option maxHeartbeats 4000000
/-! Vv, part 5: comprehensions. -/
namespace Vv
open PySem PySem.Spec PyProof.Rows L2
variable {β : Type}
def wipeL (l : List Sl) : List Nat → List Sl
  | [] => l
  | v :: vs => (wipeL l vs).set v none
def wipeS (vs : List Nat) (s : S β) : S β := ⟨wipeL s.sl vs, s.w⟩
theorem wipeL_some {l : List Sl} {i : Nat} {x : R × Bool} : ∀ {vs : List Nat}, (wipeL l vs)[i]? = some (some x) → l[i]? = some (some x) ∧ i ∉ vs
  | [], h => ⟨h, by simp⟩
  | v :: vs, h => by
    unfold wipeL at h
    by_cases hi : v = i
    · subst hi
      by_cases hv : v < (wipeL l vs).length
      · rw [List.getElem?_set_self hv] at h; cases h
      · rw [List.getElem?_eq_none (by simpa using hv)] at h; cases h
    · rw [List.getElem?_set_ne hi] at h
      obtain ⟨h1, h2⟩ := wipeL_some h
      exact ⟨h1, by simp only [List.mem_cons, not_or]; exact ⟨fun e => hi e.symm, h2⟩⟩
theorem wipeL_ne {l : List Sl} {i : Nat} : ∀ {vs : List Nat}, i ∉ vs → (wipeL l vs)[i]? = l[i]?
  | [], _ => rfl
  | v :: vs, h => by
    unfold wipeL
    rw [List.getElem?_set_ne (fun e => h (by rw [e]; exact List.mem_cons_self)), wipeL_ne fun z => h (List.mem_cons_of_mem _ z)]
theorem wipeL_length {l : List Sl} : ∀ {vs : List Nat}, (wipeL l vs).length = l.length
  | [] => rfl
  | v :: vs => by unfold wipeL; rw [List.length_set, wipeL_length]
theorem wipe_ne {σ : L2.St} {i : Nat} : ∀ {vs : List Nat}, i ∉ vs → (wipe σ vs)[i]? = σ[i]?
  | [], _ => rfl
  | v :: vs, h => by
    unfold wipe
    rw [List.getElem?_set_ne (fun e => h (by rw [e]; exact List.mem_cons_self)), wipe_ne fun z => h (List.mem_cons_of_mem _ z)]
theorem wipe_in {σ : L2.St} {i : Nat} : ∀ {vs : List Nat}, i ∈ vs → (wipe σ vs)[i]? = (σ[i]?).map fun _ => none
  | v :: vs, h => by
    unfold wipe
    by_cases hi : v = i
    · subst hi
      by_cases hv : v < σ.length
      · rw [List.getElem?_set_self (by rw [wipe_length]; exact hv), List.getElem?_eq_getElem hv]; rfl
      · rw [List.getElem?_eq_none (by rw [List.length_set, wipe_length]; omega), List.getElem?_eq_none (by omega)]; rfl
    · rw [List.getElem?_set_ne hi]
      exact wipe_in ((List.mem_cons.mp h).resolve_left fun e => hi e.symm)
theorem wipe_eq {σ σ2 : L2.St} {vs : List Nat} (hl : σ2.length = σ.length) (h : ∀ j, j ∉ vs → σ2[j]? = (wipe σ vs)[j]?) : wipe σ2 vs = wipe σ vs := by
  refine List.ext_getElem? fun j => ?_
  by_cases hj : j ∈ vs
  · rw [wipe_in hj, wipe_in hj]
    by_cases hv : j < σ.length
    · rw [List.getElem?_eq_getElem hv, List.getElem?_eq_getElem (by omega)]; rfl
    · rw [List.getElem?_eq_none (by omega), List.getElem?_eq_none (by omega)]
  · rw [wipe_ne hj, h j hj]
section
variable {K : PySem.W.Frag} {B : Bx β} {g : Gh} {st st' s s3 : S β} {fp fp' fp3 : Nat → List Addr} {σ σ2 : L2.St} {H H' H4 : Hp} {vs : List Nat}
theorem own_wipe {a : Addr} (o : Own (wipeS vs st) fp a) : Own st fp a := by
  obtain ⟨i, r, e, ha⟩ := o
  exact ⟨i, r, (wipeL_some e).1, ha⟩
/-- other slots that agree where they are not forgotten -/
theorem Rel.reslot (h : Rel K B g st fp σ2 H) (hl : σ.length = σ2.length) (hs : ∀ j, j ∉ vs → σ2[j]? = σ[j]?) : Rel K B g (wipeS vs st) fp σ H where
  len := by show _ = (wipeL _ _).length; rw [wipeL_length, hl]; exact h.len
  val := fun i r o e => by
    obtain ⟨e1, ni⟩ := wipeL_some e
    obtain ⟨x, e2, rr⟩ := h.val i r o e1
    exact ⟨x, by rw [← hs i ni]; exact e2, rr⟩
  nd := fun i r e => h.nd i r (wipeL_some e).1
  dj := fun i j r r' o ne e1 e2 => h.dj i j r r' o ne (wipeL_some e1).1 (wipeL_some e2).1
  nb := fun i r o e => h.nb i r o (wipeL_some e).1
  ar := fun i r o e => h.ar i r o (wipeL_some e).1
  bx := h.bx
  xt := h.xt
  hd := fun a ha => let q := h.hd a ha; ⟨q.1, fun o => q.2.1 (own_wipe o), q.2.2⟩
  h0 := h.h0
theorem Rel.wipe (h : Rel K B g st fp σ H) : Rel K B g (wipeS vs st) fp (wipe σ vs) H := by
  refine Rel.reslot (σ2 := σ) h (wipe_length _ _) fun j hj => (wipe_ne hj).symm
/-- the slots as they were, the heap as it has come -/
theorem Rel.moved {w' : β} (h : Rel K B g st fp σ H) (k : ∀ a o, H a = some o → a ∉ g.FB → a ∉ g.X → H' a = some o) (t : ∀ a, H' a = none → H a = none) (tt : Tt H H') (bx : B.rep w' H' g.pb g.FB) : Rel K B g ⟨st.sl, w'⟩ fp σ H' where
  len := h.len
  val := fun i r o e => let ⟨x, e1, rr⟩ := h.val i r o e; ⟨x, e1, rr.move tt fun a ha o' e' => k a o' e' (h.nb i r o e a ha).1 (h.nb i r o e a ha).2⟩
  nd := h.nd
  dj := h.dj
  nb := h.nb
  ar := h.ar
  bx := bx
  xt := fun a ha z => h.xt a ha (t a z)
  hd := fun a ha => let q := h.hd a ha; ⟨fun z => q.1 (t a z), q.2⟩
  h0 := fun a z => h.h0 a (t a z)

/-! ### one place more that is turned by us, more that is hidden -/
abbrev Gh.addX (g : Gh) (D : Addr) : Gh := { g with X := D :: g.X }
abbrev Gh.addH (g : Gh) (G : List Addr) : Gh := { g with hid := G ++ g.hid }
theorem Rel.addX {D : Addr} (h : Rel K B g st fp σ H) (hD : H D ≠ none) (n1 : ∀ i r o, st.sl[i]? = some (some (r, o)) → D ∉ fp i) (n2 : D ∉ g.hid) : Rel K B (g.addX D) st fp σ H where
  len := h.len
  val := h.val
  nd := h.nd
  dj := h.dj
  nb := fun i r o e a ha => ⟨(h.nb i r o e a ha).1, fun z => by
    rcases List.mem_cons.mp z with z | z
    · subst z; exact n1 i r o e ha
    · exact (h.nb i r o e a ha).2 z⟩
  ar := h.ar
  bx := h.bx
  xt := fun a ha => by
    rcases List.mem_cons.mp ha with z | z
    · subst z; exact hD
    · exact h.xt a z
  hd := fun a ha => let q := h.hd a ha; ⟨q.1, q.2.1, ⟨q.2.2.1.1, fun z => by
    rcases List.mem_cons.mp z with z | z
    · subst z; exact n2 ha
    · exact q.2.2.1.2 z⟩, q.2.2.2⟩
  h0 := h.h0
theorem Rel.dropX {D : Addr} (h : Rel K B (g.addX D) st fp σ H) : Rel K B g st fp σ H where
  len := h.len
  val := h.val
  nd := h.nd
  dj := h.dj
  nb := fun i r o e a ha => let q := h.nb i r o e a ha; ⟨q.1, fun z => q.2 (List.mem_cons_of_mem _ z)⟩
  ar := h.ar
  bx := h.bx
  xt := fun a ha => h.xt a (List.mem_cons_of_mem _ ha)
  hd := fun a ha => let q := h.hd a ha; ⟨q.1, q.2.1, ⟨q.2.2.1.1, fun z => q.2.2.1.2 (List.mem_cons_of_mem _ z)⟩, q.2.2.2⟩
  h0 := h.h0
theorem Rel.addH {G : List Addr} (h : Rel K B g st fp σ H) (hG : ∀ a ∈ G, H a ≠ none ∧ ¬ Own st fp a ∧ (a ∉ g.FB ∧ a ∉ g.X) ∧ (g.H0 a = none ∨ a ∈ g.Fa)) : Rel K B (g.addH G) st fp σ H :=
  ⟨h.len, h.val, h.nd, h.dj, h.nb, h.ar, h.bx, h.xt, fun a ha => (List.mem_append.mp ha).elim (hG a) (h.hd a), h.h0⟩
theorem Rel.dropH {G : List Addr} (h : Rel K B (g.addH G) st fp σ H) : Rel K B g st fp σ H :=
  ⟨h.len, h.val, h.nd, h.dj, h.nb, h.ar, h.bx, h.xt, fun a ha => h.hd a (List.mem_append_right _ ha), h.h0⟩
theorem Res.addX {D : Addr} {m : List Nat} {mu : Bool} {cs : List Cm} (h : Rel K B (g.addX D) st fp σ H) (r : Res K B g m mu st fp σ H st' fp' H' cs) : Res K B (g.addX D) m mu st fp σ H st' fp' H' cs := by
  have hD : H D ≠ none := h.xt D List.mem_cons_self
  have nfp : ∀ i x o, st'.sl[i]? = some (some (x, o)) → D ∉ fp' i := fun i x o e z => by
    obtain ⟨⟨y, e1⟩, s⟩ := r.sub i x o e
    exact (h.nb i y o e1 D (s D z)).2 List.mem_cons_self
  have nhid : D ∉ g.hid := fun z => (h.hd D z).2.2.1.2 List.mem_cons_self
  refine ⟨r.rel.addX (fun z => hD (r.trk D z)) nfp nhid, r.sub, fun a o e n1 n2 n3 => r.keep a o e n1 n2 fun z => n3 (List.mem_cons_of_mem _ z), r.trk, r.tt, fun c hc => ?_, r.pw, fun e => ?_⟩
  · have q := r.each c hc
    refine ⟨q.rr, q.fr, q.ali, q.src, fun a ha => ⟨(q.nb a ha).1, fun z => ?_⟩⟩
    rcases List.mem_cons.mp z with z | z
    · subst z
      rcases q.src a ha with ⟨i, x, o, e, z⟩ | z | ⟨i, x, e, z⟩ | z
      · exact nfp i x o e z
      · exact nhid z
      · exact (h.nb i x true e a z).2 List.mem_cons_self
      · exact hD z
    · exact (q.nb a ha).2 z
  · obtain ⟨p1, p2, p3⟩ := r.pure e
    exact ⟨p1, p2, fun a o e n2 n3 => p3 a o e n2 fun z => n3 (List.mem_cons_of_mem _ z)⟩
/-- the list that is ours has turned -/
theorem Res.updX {D : Addr} {o : HO} {xs : List V} {m : List Nat} {mu : Bool} {cs : List Cm} (h : Rel K B (g.addX D) st fp σ H) (hb : D ∉ g.FB) (r : Res K B (g.addX D) m mu st fp σ H st' fp' H' cs) (hD : H' D = some (.lst xs)) : Res K B (g.addX D) m mu st fp σ H st' fp' (upd H' D o) cs := by
  have tr : ∀ a, upd H' D o a = none → H' a = none := fun a z => by
    by_cases e : a = D
    · subst e; rw [upd_same] at z; cases z
    · rw [upd_ne e] at z; exact z
  have tt : Tt H' (upd H' D o) := ⟨fun a xs e => by rw [upd_ne (fun z => by subst z; rw [hD] at e; cases e)]; exact e, fun a ob u e => by rw [upd_ne (fun z => by subst z; rw [hD] at e; cases e)]; exact e⟩
  have keepX : ∀ a ob, H' a = some ob → a ∉ (g.addX D).FB → a ∉ (g.addX D).X → upd H' D o a = some ob := fun a ob e _ n => by
    rw [upd_ne (fun z => n (by rw [z]; exact List.mem_cons_self))]; exact e
  have bx : B.rep st'.w (upd H' D o) g.pb g.FB := B.same r.rel.bx fun a ha ob e => by rw [upd_ne (fun z => hb (by rw [← z]; exact ha))]; exact e
  refine ⟨?_, r.sub, fun a ob e n1 n2 n3 => keepX a ob (r.keep a ob e n1 n2 n3) n2 n3, fun a z => r.trk a (tr a z), r.tt.trans tt, fun c hc => ?_, r.pw, fun e => ?_⟩
  · exact Rel.moved (w' := st'.w) r.rel keepX tr tt bx
  · have q := r.each c hc
    exact ⟨q.rr.move tt fun a ha ob e => keepX a ob e (q.nb a ha).1 (q.nb a ha).2, q.fr, q.ali, q.src, q.nb⟩
  · obtain ⟨p1, p2, p3⟩ := r.pure e
    exact ⟨p1, p2, fun a ob e n2 n3 => keepX a ob (p3 a ob e n2 n3) n2 n3⟩

/-! ### a turn of a comprehension, seen from outside -/
def back (mu : Bool) (vs : List Nat) (s s3 : S β) : S β := if mu then wipeS vs s3 else ⟨s.sl, s3.w⟩
theorem Res.outer {mu : Bool} {m : List Nat} {F : List Addr} {ix : List Nat} {s1 : S β} {cs : List Cm} (rel : Rel K B g s fp σ H) (sm : Same H H') (k : BdK K B g (wipeS vs s) fp (L2.wipe σ vs) H' F false ix s1 σ2 H') (hix : ∀ j ∈ ix, j ∈ vs) (hF : ∀ a ∈ F, a ∈ g.hid)
    {fp1 : Nat → List Addr} (k1 : Rel K B g s1 fp1 σ2 H') (k2 : ∀ a, Own s1 fp1 a → Own (wipeS vs s) fp a)
    (k4 : ∀ j, j ∉ ix → σ2[j]? = (L2.wipe σ vs)[j]? ∧ s1.sl[j]? = (wipeS vs s).sl[j]? ∧ fp1 j = fp j) (k5 : ∀ j ∈ ix, ∀ a ∈ fp1 j, a ∈ F) (kl : σ2.length = σ.length)
    (r : Res K B g m mu s1 fp1 σ2 H' s3 fp3 H4 cs) : Res K B g m mu s fp σ H (back mu vs s s3) (if mu then fp3 else fp) H4 cs := by
  have ownS : ∀ a, Own s1 fp1 a → Own s fp a := fun a o => own_wipe (k2 a o)
  have nix : ∀ j, j ∉ vs → j ∉ ix := fun j h z => h (hix j z)
  have slot1 : ∀ j, j ∉ vs → s1.sl[j]? = s.sl[j]? ∧ fp1 j = fp j := fun j h => by
    obtain ⟨_, h2, h3⟩ := k4 j (nix j h)
    exact ⟨h2.trans (wipeL_ne h), h3⟩
  -- a set slot within, of a name of the block's own
  have slotV : ∀ j x o, j ∈ vs → s1.sl[j]? = some (some (x, o)) → ∀ a ∈ fp1 j, a ∈ g.hid := fun j x o hj e a ha => by
    by_cases h : j ∈ ix
    · exact hF a (k5 j h a ha)
    · rw [(k4 j h).2.1] at e
      exact absurd hj (wipeL_some e).2
  have src1 : ∀ j x o, s1.sl[j]? = some (some (x, o)) → ∀ a ∈ fp1 j, (j ∉ vs ∧ s.sl[j]? = some (some (x, o)) ∧ a ∈ fp j) ∨ a ∈ g.hid := fun j x o e a ha => by
    by_cases h : j ∈ vs
    · exact .inr (slotV j x o h e a ha)
    · obtain ⟨h1, h2⟩ := slot1 j h
      exact .inl ⟨h, by rw [← h1]; exact e, by rw [← h2]; exact ha⟩
  have σs : ∀ j, j ∉ vs → σ2[j]? = σ[j]? := fun j h => ((k4 j (nix j h)).1).trans (wipe_ne h)
  cases mu with
  | true =>
    have sb : ∀ i x o, (wipeS vs s3).sl[i]? = some (some (x, o)) → i ∉ vs ∧ s3.sl[i]? = some (some (x, o)) := fun i x o e => ⟨(wipeL_some e).2, (wipeL_some e).1⟩
    refine ⟨r.rel.reslot kl.symm σs, fun i x o e => ?_, fun a o e n1 n2 n3 => r.keep a o (sm a o e) (fun z => n1 (ownS a z)) n2 n3, fun a z => sm.free (r.trk a z), (Tt.same sm).trans r.tt, fun c hc => ?_, r.pw, fun e => by cases e⟩
    · obtain ⟨ni, e⟩ := sb i x o e
      obtain ⟨⟨y, e1⟩, sub⟩ := r.sub i x o e
      obtain ⟨h1, h2⟩ := slot1 i ni
      refine ⟨⟨y, by rw [← h1]; exact e1⟩, fun a ha => ?_⟩
      show a ∈ fp i
      rw [← h2]; exact sub a ha
    · have q := r.each c hc
      refine ⟨q.rr, fun f => ?_, fun i x e ni => q.ali i x (sb i x true e).2 ni, fun a ha => ?_, q.nb⟩
      · obtain ⟨f1, f2, f3⟩ := q.fr f
        exact ⟨f1, fun i x o e => f2 i x o (sb i x o e).2, fun a ha => (f3 a ha).elim (fun z => .inl (ownS a z)) fun z => .inr (sm.free z)⟩
      · rcases q.src a ha with ⟨i, x, o, e, z⟩ | z | z | z
        · by_cases hi : i ∈ vs
          · obtain ⟨⟨y, e1⟩, sub⟩ := r.sub i x o e
            exact .inr (.inl (slotV i y o hi e1 a (sub a z)))
          · exact .inl ⟨i, x, o, (wipeL_ne hi).trans e, z⟩
        · exact .inr (.inl z)
        · exact .inr (.inr (.inl (ownS a z)))
        · exact .inr (.inr (.inr (sm.free z)))
  | false =>
    obtain ⟨p1, p2, p3⟩ := r.pure rfl
    subst p2
    have trk : ∀ a, H4 a = none → H a = none := fun a z => sm.free (r.trk a z)
    have k0 : ∀ a o, H a = some o → a ∉ g.FB → a ∉ g.X → H4 a = some o := fun a o e n2 n3 => p3 a o (sm a o e) n2 n3
    refine ⟨Rel.moved (w' := s3.w) rel k0 trk ((Tt.same sm).trans r.tt) r.rel.bx, fun i x o e => ⟨⟨x, e⟩, fun a ha => ha⟩, fun a o e _ n2 n3 => k0 a o e n2 n3, trk, (Tt.same sm).trans r.tt, fun c hc => ?_, r.pw, fun _ => ⟨rfl, rfl, k0⟩⟩
    have q := r.each c hc
    refine ⟨q.rr, fun f => ?_, fun i x e ni a ha z => ?_, fun a ha => ?_, q.nb⟩
    · obtain ⟨f1, f2, f3⟩ := q.fr f
      refine ⟨f1, fun i x o e a ha z => ?_, fun a ha => (f3 a ha).elim (fun z => .inl (ownS a z)) fun z => .inr (sm.free z)⟩
      rcases f3 a ha with ⟨j, y, e', z'⟩ | z'
      · exact f2 j y true (by rw [p1]; exact e') a ha z'
      · exact rel.trk e a z (sm.free z')
    · have e : s.sl[i]? = some (some (x, true)) := e
      by_cases hi : i ∈ vs
      · rcases q.src a ha with ⟨j, y, o, e', z'⟩ | z' | z' | z'
        · rw [p1] at e'
          rcases src1 j y o e' a z' with ⟨nj, e2, z2⟩ | z2
          · exact rel.dj i j x y o (fun h => nj (h ▸ hi)) e e2 a z z2
          · exact (rel.hd a z2).2.1 ⟨i, x, e, z⟩
        · exact (rel.hd a z').2.1 ⟨i, x, e, z⟩
        · obtain ⟨j, y, e2, z2⟩ := k2 a z'
          obtain ⟨e3, nj⟩ := wipeL_some e2
          exact rel.dj i j x y true (fun h => nj (h ▸ hi)) e e3 a z z2
        · exact rel.trk e a z (sm.free z')
      · obtain ⟨h1, h2⟩ := slot1 i hi
        exact q.ali i x (by rw [p1, h1]; exact e) ni a ha (by rw [h2]; exact z)
    · rcases q.src a ha with ⟨i, x, o, e, z⟩ | z | z | z
      · rw [p1] at e
        rcases src1 i x o e a z with ⟨ni, e2, z2⟩ | z2
        · exact .inl ⟨i, x, o, e2, z2⟩
        · exact .inr (.inl z2)
      · exact .inr (.inl z)
      · exact .inr (.inr (.inl (ownS a z)))
      · exact .inr (.inr (.inr (sm.free z)))
end
/-- the parts of lists that nobody else has -/
theorem flat_nodup : ∀ {cs : List Cm}, cs.Pairwise CDj → (∀ c ∈ cs, c.fr = true) → (∀ c ∈ cs, c.F.Nodup) → (cs.map (·.F)).flatten.Nodup
  | [], _, _, _ => List.nodup_nil
  | c :: cs, p, f, n => by
    rw [List.map_cons, List.flatten_cons]
    cases p with
    | cons p1 p2 =>
      refine List.nodup_append.mpr ⟨n c List.mem_cons_self, flat_nodup p2 (fun d hd => f d (List.mem_cons_of_mem _ hd)) fun d hd => n d (List.mem_cons_of_mem _ hd), fun a ha b hb e => ?_⟩
      subst e
      obtain ⟨d, hd, z⟩ := mem_flat hb
      exact p1 d hd (.inl (f c List.mem_cons_self)) a ha z
section
variable {K : PySem.W.Frag} {B : Bx β} {g : Gh} {st s0 sE : S β} {fp fp0 fpE : Nat → List Addr} {σ : L2.St} {H H1 HE : Hp}
/-- the whole comprehension -/
theorem Res.comp {m m' : List Nat} {mu muI : Bool} {c0 : Cm} {D : Addr} {cs : List Cm} {ds : List PyData} (rel : Rel K B g st fp σ H) (r0 : Res K B g m muI st fp σ H s0 fp0 H1 [c0]) (hD : H1 D = none) (hg : (!mu || c0.fr) = true)
    (r : Res K B ((g.addH c0.F).addX D) m' mu (if c0.fr then s0 else frzS m s0) fp0 σ (upd H1 D (.lst [])) sE fpE HE cs) (hE : HE D = some (.lst (cs.map (·.x)))) (hds : cs.map (·.v) = ds.map R.d) :
    Res K B g (m ++ m') (muI || mu) st fp σ H (if mu then sE else ⟨s0.sl, sE.w⟩) (if mu then fpE else fp0) HE [⟨.ref D, .d (.list ds), cs.all (·.fr), D :: (cs.map (·.F)).flatten⟩] := by
  have sm : Same H1 (upd H1 D (.lst [])) := same_upd hD
  have bd := r0.bd rel (c := c0) List.mem_cons_self
  have q0 := r0.each c0 List.mem_cons_self
  have ne : ∀ a o, H1 a = some o → a ≠ D := fun a o e z => by rw [z, hD] at e; cases e
  have nX : D ∉ g.X := fun z => r0.rel.xt D z hD
  have nB : D ∉ g.FB := fun z => B.trk r0.rel.bx D z hD
  have trk : ∀ a, HE a = none → H1 a = none := fun a z => sm.free (r.trk a z)
  have keepF : ∀ a o, H1 a = some o → ¬ Own (if c0.fr then s0 else frzS m s0) fp0 a → a ∉ g.FB → a ∉ g.X → HE a = some o := fun a o e n1 n2 n3 => r.keep a o (sm a o e) n1 n2 fun z => (List.mem_cons.mp z).elim (ne a o e) n3
  have relE : Rel K B g sE fpE σ HE := r.rel.dropX.dropH
  have tt : Tt H1 HE := (Tt.same sm).trans r.tt
  have slotsF : ∀ i x o, (if c0.fr then s0 else frzS m s0).sl[i]? = some (some (x, o)) → ∃ o', s0.sl[i]? = some (some (x, o')) := fun i x o e => by
    cases hf : c0.fr with
    | true => rw [hf] at e; exact ⟨o, e⟩
    | false => rw [hf] at e; obtain ⟨o', e', _⟩ := frz_some e; exact ⟨o', e'⟩
  have ownF : ∀ a, Own (if c0.fr then s0 else frzS m s0) fp0 a → Own s0 fp0 a := fun a o => own_pre o
  -- from a part of an element to the outer state
  have outS : ∀ i x o, (if mu then sE else (⟨s0.sl, sE.w⟩ : S β)).sl[i]? = some (some (x, o)) → ∃ y, s0.sl[i]? = some (some (y, o)) ∧ ∀ a ∈ (if mu then fpE else fp0) i, a ∈ fp0 i := fun i x o e => by
    cases hm : mu with
    | true =>
      rw [hm] at e hg
      have hf : c0.fr = true := by simpa using hg
      obtain ⟨⟨y, e1⟩, s⟩ := r.sub i x o e
      rw [hf] at e1
      exact ⟨y, e1, s⟩
    | false => rw [hm] at e; exact ⟨x, e, fun a ha => ha⟩
  have backS : ∀ i x o a, sE.sl[i]? = some (some (x, o)) → a ∈ fpE i → (∃ i x o, (if mu then sE else (⟨s0.sl, sE.w⟩ : S β)).sl[i]? = some (some (x, o)) ∧ a ∈ (if mu then fpE else fp0) i) := fun i x o a e ha => by
    cases hm : mu with
    | true => exact ⟨i, x, o, e, ha⟩
    | false =>
      obtain ⟨p1, p2, _⟩ := r.pure hm
      rw [p1] at e
      rw [p2] at ha
      obtain ⟨o', e'⟩ := slotsF i x o e
      exact ⟨i, x, o', e', ha⟩
  have mkR : ∀ {a}, a ∈ (cs.map (·.F)).flatten → ∃ c ∈ cs, a ∈ c.F := fun h => mem_flat h
  refine ⟨?_, fun i x o e => ?_, fun a o e n1 n2 n3 => keepF a o (r0.keep a o e n1 n2 n3) (fun z => n1 (r0.own (ownF a z))) n2 n3, fun a z => r0.trk a (trk a z), r0.tt.trans tt, fun c hc => ?_, .cons (fun _ h => (nomatch h)) List.Pairwise.nil, fun e => ?_⟩
  · cases hm : mu with
    | true => exact relE
    | false =>
      obtain ⟨p1, p2, p3⟩ := r.pure hm
      exact Rel.moved r0.rel (fun a o e n2 n3 => p3 a o (sm a o e) n2 fun z => (List.mem_cons.mp z).elim (ne a o e) n3) trk tt relE.bx
  · obtain ⟨y, e1, s⟩ := outS i x o e
    obtain ⟨⟨z, e2⟩, s'⟩ := r0.sub i y o e1
    exact ⟨⟨z, e2⟩, fun a ha => s' a (s a ha)⟩
  · have ec : c = ⟨.ref D, .d (.list ds), cs.all (·.fr), D :: (cs.map (·.F)).flatten⟩ := by simpa using hc
    subst ec
    refine ⟨.lst hE (rpA_of (fun c hc => (r.each c hc).rr) hds), fun f => ?_, fun i x e ni a ha z => ?_, fun a ha => ?_, fun a ha => ?_⟩
    · have all : ∀ c ∈ cs, c.fr = true := fun c hc => List.all_eq_true.mp f c hc
      refine ⟨List.nodup_cons.mpr ⟨fun h => ?_, flat_nodup r.pw all fun c hc => ((r.each c hc).fr (all c hc)).1⟩, fun i x o e a ha z => ?_, fun a ha => ?_⟩
      · obtain ⟨c, hc, h⟩ := mkR h
        exact ((r.each c hc).nb D h).2 List.mem_cons_self
      · obtain ⟨y, e1, s⟩ := outS i x o e
        rcases List.mem_cons.mp ha with ha | ha
        · subst ha; exact r0.rel.trk e1 a (s a z) hD
        · obtain ⟨c, hc, ha⟩ := mkR ha
          obtain ⟨f1, f2, f3⟩ := (r.each c hc).fr (all c hc)
          cases hm : mu with
          | true => rw [hm] at e z; exact f2 i x o e a ha z
          | false =>
            obtain ⟨p1, p2, _⟩ := r.pure hm
            rcases f3 a ha with ⟨j, w, e', z'⟩ | z'
            · exact f2 j w true (by rw [p1]; exact e') a ha (by rw [p2]; exact z')
            · exact r0.rel.trk e1 a (s a z) (sm.free z')
      · rcases List.mem_cons.mp ha with ha | ha
        · subst ha; exact .inr (r0.trk a hD)
        · obtain ⟨c, hc, ha⟩ := mkR ha
          rcases ((r.each c hc).fr (all c hc)).2.2 a ha with z | z
          · exact .inl (r0.own (ownF a z))
          · exact .inr (r0.trk a (sm.free z))
    · obtain ⟨y, e1, s⟩ := outS i x true e
      rcases List.mem_cons.mp ha with ha | ha
      · subst ha; exact r0.rel.trk e1 a (s a z) hD
      · obtain ⟨c, hc, ha⟩ := mkR ha
        have n1 : i ∉ m := fun h => ni (List.mem_append_left _ h)
        have n2 : i ∉ m' := fun h => ni (List.mem_append_right _ h)
        cases hm : mu with
        | true => rw [hm] at e z; exact (r.each c hc).ali i x e n2 a ha z
        | false =>
          obtain ⟨p1, p2, _⟩ := r.pure hm
          rw [hm] at z
          refine (r.each c hc).ali i y ?_ n2 a ha (by rw [p2]; exact z)
          rw [p1]
          cases hf : c0.fr with
          | true => exact e1
          | false =>
            show (frz m 0 s0.sl)[i]? = _
            rw [frz_get, e1]
            simp [n1]
    · rcases List.mem_cons.mp ha with ha | ha
      · subst ha; exact .inr (.inr (.inr (r0.trk a hD)))
      · obtain ⟨c, hc, ha⟩ := mkR ha
        rcases (r.each c hc).src a ha with ⟨i, x, o, e, z⟩ | z | z | z
        · exact .inl (backS i x o a e z)
        · rcases List.mem_append.mp z with z | z
          · rcases q0.src a z with ⟨i, x, o, e, z⟩ | z | z | z
            · -- a part of what is walked that stands in a slot
              cases hm : mu with
              | true =>
                have hf : c0.fr = true := by rw [hm] at hg; simpa using hg
                exact absurd z ((q0.fr hf).2.1 i x o e a (by assumption))
              | false => exact .inl ⟨i, x, o, e, z⟩
            · exact .inr (.inl z)
            · exact .inr (.inr (.inl z))
            · exact .inr (.inr (.inr z))
          · exact .inr (.inl z)
        · exact .inr (.inr (.inl (r0.own (ownF a z))))
        · exact .inr (.inr (.inr (r0.trk a (sm.free z))))
    · rcases List.mem_cons.mp ha with ha | ha
      · subst ha; exact ⟨nB, nX⟩
      · obtain ⟨c, hc, ha⟩ := mkR ha
        exact ⟨((r.each c hc).nb a ha).1, fun z => ((r.each c hc).nb a ha).2 (List.mem_cons_of_mem _ z)⟩
  · have e1 : muI = false ∧ mu = false := by cases muI <;> cases mu <;> first | exact ⟨rfl, rfl⟩ | cases e
    obtain ⟨e1, e2⟩ := e1
    obtain ⟨a1, a2, a3⟩ := r0.pure e1
    obtain ⟨b1, b2, b3⟩ := r.pure e2
    subst e2
    exact ⟨a1, a2, fun a o e n2 n3 => b3 a o (sm a o (a3 a o e n2 n3)) n2 fun z => (List.mem_cons.mp z).elim (ne a o (a3 a o e n2 n3)) n3⟩
end
end Vv

set_option Elab.async false
set_option linter.all false
set_option maxRecDepth 100000
set_option autoImplicit false
set_option maxHeartbeats 4000000
/-! Vv, part 6: comprehensions, the rule. -/
namespace Vv
open PySem PySem.Spec PyProof.Rows L2
variable {β : Type}
def fLc (vs : List Nat) (p : Pat) (mu : Bool) (fc : TF β) (fe : EF β) : List PyData → S β → Option (List (R × Bool) × S β)
  | [], s => some ([], s)
  | d :: ds, s => match bindP p (.d d) false (wipeS vs s) with
    | some s1 => bT (fc s1) fun b s2 => if b then bE (fe s2) fun v fr s3 => gd (!mu || fr) (bA (fLc vs p mu fc fe ds (back mu vs s s3)) fun r s4 => some ((v, fr) :: r, s4))
      else fLc vs p mu fc fe ds (back mu vs s s2)
    | none => none
def fComp (m vs : List Nat) (p : Pat) (mu : Bool) (fi : IF β) (fc : TF β) (fe : EF β) : EF β := fun st => bI (fi st) fun ds fr s => gd (!mu || fr) (bA (fLc vs p mu fc fe ds (if fr then s else frzS m s)) fun r s' => match toDs r with
  | some es => gd (decide (r.length ≤ sizeLine)) (some (.d (.list es), r.all (·.2), if mu then s' else ⟨s.sl, s'.w⟩))
  | none => none)
def tTs (K : PySem.W.Frag) (B : Bx β) (f : TF β) (m : List Nat) (mu : Bool) : TT := tT K B f m mu
/-- no test -/
def fYes : TF β := fun st => some (true, st)
section
variable {X : Cx} {B : Bx β}
theorem PTs_con {ifs : List Expr} {t t' : TT} (h : PTs X ifs t) (w : ∀ σ H Q, t' σ H Q → t σ H Q) : PTs X ifs t' := ⟨fun pins s σ H Q I q => h.run pins s σ H Q I (w σ H Q q)⟩
theorem tsNil : PTs X [] (tT X.K B (fYes (β := β)) [] false) := by
  refine PTs_con pts_nil ?_
  rintro σ H Q ⟨g, st, fp, rel, b, st', e, q⟩
  cases e
  exact q fp H (Res.refl rel)
theorem tsOne {c : Expr} {f : TF β} {m : List Nat} {mu : Bool} (h : VT X B c f m mu) : PTs X [c] (tT X.K B f m mu) := pts_one h
theorem comp_con {mI m2 m3 : List Nat} {muI mc me : Bool} {vs : List Nat} {p : Pat} {fi : IF β} {fc : TF β} {fe : EF β} (hix : ∀ j ∈ p.ix, j ∈ vs) (σ : L2.St) (H : Hp) (Q : VK)
    (q : tE X.K B (fComp mI vs p (mc || me) fi fc fe) (mI ++ (m2 ++ m3)) (muI || (mc || me)) σ H Q) : tLc (tI X.K B fi mI muI) (gP X.K p) (tT X.K B fc m2 mc) (tE X.K B fe m3 me) vs σ H Q := by
  obtain ⟨g, st, fp, rel, v, frv, st', e, q⟩ := q
  obtain ⟨ds, fr, s0, e0, e⟩ := bI_inv e
  obtain ⟨hg, e⟩ := gd_inv e
  obtain ⟨r, sE, eL, e⟩ := bA_inv e
  split at e
  case h_2 => cases e
  rename_i es e2
  obtain ⟨hz, e⟩ := gd_inv e
  have hz := of_decide_eq_true hz
  cases e
  refine ⟨g, st, fp, rel, ds, fr, s0, e0, fun J fp0 H1 c0 L r0 hfr hI hL D hD => ?_⟩
  subst hfr
  have sm : Same H1 (upd H1 D (.lst [])) := same_upd hD
  have bd := r0.bd rel (c := c0) List.mem_cons_self
  have nX : D ∉ g.X := fun z => r0.rel.xt D z hD
  have nB : D ∉ g.FB := fun z => B.trk r0.rel.bx D z hD
  have c0trk : ∀ a ∈ c0.F, H1 a ≠ none := fun a ha z => by
    obtain ⟨xs, t⟩ := (r0.each c0 List.mem_cons_self).rr.trk a ha
    rw [t] at z; cases z
  have nD : D ∉ c0.F := fun z => c0trk D z hD
  generalize hsF : (if c0.fr then s0 else frzS mI s0) = sF at eL bd
  have relF0 : Rel X.K B g sF fp0 σ (upd H1 D (.lst [])) := by rw [← hsF]; exact r0.rel.pre.same sm
  have relF1 : Rel X.K B (g.addH c0.F) sF fp0 σ (upd H1 D (.lst [])) := relF0.addH fun a ha => ⟨fun z => c0trk a ha (sm.free z), bd.al a ha, bd.nb a ha, bd.ar a ha⟩
  have slD : ∀ i x o, sF.sl[i]? = some (some (x, o)) → D ∉ fp0 i := fun i x o e z => by
    have rF : Rel X.K B g sF fp0 σ H1 := by rw [← hsF]; exact r0.rel.pre
    exact rF.trk e D z hD
  have hidD : D ∉ (g.addH c0.F).hid := fun z => (List.mem_append.mp z).elim nD fun z => (r0.rel.hd D z).1 hD
  have relF : Rel X.K B ((g.addH c0.F).addX D) sF fp0 σ (upd H1 D (.lst [])) := relF1.addX (by rw [upd_same]; simp) slD hidD
  have hLD : L (upd H1 D (.lst [])) := hI.move H1 _ hL (.same sm) fun a ha o e => sm a o e
  -- the invariant
  refine ⟨fun i n H' => n = ds.length - i ∧ i ≤ ds.length ∧ ∃ s' fp' cs rest, Res X.K B ((g.addH c0.F).addX D) (m2 ++ m3) (mc || me) sF fp0 σ (upd H1 D (.lst [])) s' fp' H' cs ∧ H' D = some (.lst (cs.map (·.x))) ∧ L H' ∧
      ((mc || me) = true → ∀ c ∈ cs, c.fr = true) ∧ fLc vs p (mc || me) fc fe (ds.drop i) s' = some (rest, sE) ∧ r = cs.map (fun c => (c.v, c.fr)) ++ rest,
    ⟨ds.length, by simp, Nat.zero_le _, sF, fp0, [], r, Res.refl relF, upd_same, hLD, fun _ c hc => (nomatch hc), eL, rfl⟩, ?_⟩
  rintro i n H' ⟨rfl, hi, s', fp', cs, rest, rA, hDl, hL', hfr, eR, hr⟩
  by_cases hlt : i < ds.length
  · refine .inr ⟨hI.go i H' hL' hlt, fun H2 => ∃ s2 fp2 cs rest, Res X.K B ((g.addH c0.F).addX D) (m2 ++ m3) (mc || me) sF fp0 σ (upd H1 D (.lst [])) s2 fp2 H2 cs ∧ H2 D = some (.lst (cs.map (·.x))) ∧ L H2 ∧
      ((mc || me) = true → ∀ c ∈ cs, c.fr = true) ∧ fLc vs p (mc || me) fc fe (ds.drop (i + 1)) s2 = some (rest, sE) ∧ r = cs.map (fun c => (c.v, c.fr)) ++ rest, fun H2 h => ⟨ds.length - (i + 1), by omega, rfl, hlt, h⟩, fun x H2 y => ?_⟩
    rw [List.drop_eq_getElem_cons hlt] at eR
    have eR : (match bindP p (.d ds[i]) false (wipeS vs s') with
      | some s1 => bT (fc s1) fun b s2 => if b then bE (fe s2) fun v fr s3 => gd (!(mc || me) || fr) (bA (fLc vs p (mc || me) fc fe (ds.drop (i + 1)) (back (mc || me) vs s' s3)) fun r s4 => some ((v, fr) :: r, s4))
        else fLc vs p (mc || me) fc fe (ds.drop (i + 1)) (back (mc || me) vs s' s2)
      | none => none) = some (rest, sE) := eR
    split at eR
    case h_2 => cases eR
    rename_i s1 e1
    obtain ⟨smY, F, rp, sub⟩ := hI.yld i ds[i] H' x H2 hL' (List.getElem?_eq_getElem hlt) y
    have relI := rA.rel
    have relW := (relI.wipe (vs := vs)).same smY
    have hidF : ∀ a ∈ F, a ∈ ((g.addH c0.F).addX D).hid := fun a ha => List.mem_append_left _ (sub.subset ha)
    have bd2 : Bd ((g.addH c0.F).addX D) (wipeS vs s') fp' false F := ⟨fun z => (by cases z), fun a ha z => (relI.hd a (hidF a ha)).2.1 (own_wipe z), fun a ha => (relI.hd a (hidF a ha)).2.2.1, fun a ha => (relI.hd a (hidF a ha)).2.2.2⟩
    have hL2 : L H2 := hI.move H' H2 hL' (.same smY) fun a _ o e => smY a o e
    refine bindP_ok p (.d ds[i]) false (wipeS vs s') s1 fp' (wipe σ vs) x F _ relW rp bd2 e1 fun σ2 H3 k => ?_
    have k' := k
    obtain ⟨rfl, fp1, rel1, k2, k3, kw, k4, k5, kl⟩ := k
    have kl' : σ2.length = σ.length := kl.trans (wipe_length _ _)
    have k2' : ∀ a, Own s1 fp1 a → Own (wipeS vs s') fp' a := fun a o => (k2 a o).elim id fun z => by cases z.1
    refine ⟨wipe_eq kl' fun j hj => (k4 j fun z => hj (hix j z)).1, ?_⟩
    obtain ⟨b, s2, eT, eR⟩ := bT_inv eR
    have notOwnD : ¬ Own s1 fp1 D := fun ⟨j, z, e, ha⟩ => (rel1.nb j z true e D ha).2 List.mem_cons_self
    have notOwn0 : ∀ a ∈ c0.F, ¬ Own s1 fp1 a := fun a ha => (rel1.hd a (List.mem_append_left _ ha)).2.1
    have nb0 : ∀ a ∈ c0.F, a ∉ g.FB ∧ a ∉ g.X := fun a ha => bd.nb a ha
    have hD2 : H2 D = some (.lst (cs.map (·.x))) := smY D _ hDl
    refine ⟨g.addH c0.F, s1, fp1, rel1.dropX, b, s2, eT, fun fp2 H4 r2 => ?_⟩
    -- the turn's end, for what has come in the block
    have fin : ∀ {s3 : S β} {fp3 : Nat → List Addr} {H5 : Hp} {ms : List Nat} {mus : Bool} {cs1 : List Cm}, Res X.K B (g.addH c0.F) ms mus s1 fp1 σ2 H2 s3 fp3 H5 cs1 → (∀ j ∈ ms, j ∈ m2 ++ m3) → (mus = true → (mc || me) = true) →
        Res X.K B ((g.addH c0.F).addX D) (m2 ++ m3) (mc || me) sF fp0 σ (upd H1 D (.lst [])) (back (mc || me) vs s' s3) (if (mc || me) then fp3 else fp') H5 (cs ++ cs1) ∧ H5 D = some (.lst (cs.map (·.x))) ∧ L H5 := fun {s3 fp3 H5 ms mus cs1} rr hm hu => by
      have rr1 : Res X.K B (g.addH c0.F) (m2 ++ m3) (mc || me) s1 fp1 σ2 H2 s3 fp3 H5 cs1 := rr.weak hm hu (List.Sublist.refl _)
      have rr2 := rr1.addX rel1
      have rO := Res.outer relI smY k' hix hidF rel1 k2' k4 k5 kl' rr2
      have rr3 := Res.app relF rA rO hfr
      refine ⟨rr3.weak (fun j hj => (List.mem_append.mp hj).elim id id) (fun h => by simpa using h) (List.Sublist.refl _), rr.keep D _ hD2 notOwnD nB nX, hI.move H2 H5 hL2 rr.tt fun a ha o e => rr.keep a o e (notOwn0 a ha) (nb0 a ha).1 (nb0 a ha).2⟩
    cases b with
    | false =>
      rw [if_neg Bool.false_ne_true] at eR
      refine iteF ?_
      obtain ⟨rX, hX, lX⟩ := fin (r2) (fun j hj => List.mem_append_left _ hj) (fun h => by rw [h]; rfl)
      rw [List.append_nil] at rX
      exact ⟨_, _, cs, rest, rX, hX, lX, hfr, eR, hr⟩
    | true =>
      rw [if_pos rfl] at eR
      refine iteT ?_
      obtain ⟨v, frv, s3, eE, eR⟩ := bE_inv eR
      obtain ⟨hgv, eR⟩ := gd_inv eR
      obtain ⟨rest', sE', eR1, eR⟩ := bA_inv eR
      cases eR
      refine ⟨g.addH c0.F, s2, fp2, r2.rel, v, frv, s3, eE, fun z Fz fp3 H5 r3 => ?_⟩
      have r23 := Res.app rel1.dropX r2 r3 fun _ c hc => (nomatch hc)
      rw [List.nil_append] at r23
      obtain ⟨rX, hX, lX⟩ := fin r23 (fun j hj => hj) (fun h => h)
      have hlen : (cs.map (·.x)).length < sizeLine := by
        have : r.length = cs.length + (rest'.length + 1) := by rw [hr, List.length_append, List.length_map, List.length_cons]
        rw [List.length_map]
        omega
      refine ⟨_, hX, hlen, ?_⟩
      have rY := rX.updX (o := .lst (cs.map (·.x) ++ [z])) relF nB hX
      refine ⟨_, _, cs ++ [⟨z, v, frv, Fz⟩], rest', rY, by rw [upd_same, List.map_append]; rfl, hI.move H5 _ lX ?_ fun a ha o e => ?_, fun h c hc => ?_, eR1, by rw [hr, List.map_append, List.append_assoc]; rfl⟩
      · exact ⟨fun a xs e => by rw [upd_ne (fun y => by subst y; rw [hX] at e; cases e)]; exact e, fun a ob u e => by rw [upd_ne (fun y => by subst y; rw [hX] at e; cases e)]; exact e⟩
      · rw [upd_ne (fun y => nD (by rw [← y]; exact ha))]; exact e
      · rcases List.mem_append.mp hc with hc | hc
        · exact hfr h c hc
        · have : c = ⟨z, v, frv, Fz⟩ := by simpa using hc
          subst this
          rw [h] at hgv
          simpa using hgv
  · have e1 : i = ds.length := by omega
    subst e1
    refine .inl ⟨hI.stop _ H' hL' (Nat.le_refl _), ?_⟩
    rw [List.drop_length] at eR
    cases eR
    rw [List.append_nil] at hr
    have hv := toDs_inv (cs := cs) (ds := es) (by rw [← hr]; exact e2)
    subst hsF
    have fin := Res.comp rel r0 hD hg rA hDl hv
    have e3 : r.all (·.2) = cs.all (·.fr) := by rw [hr, List.all_map]; rfl
    rw [e3] at q
    exact q _ _ _ H' fin
theorem xComp {elt tg iter : Expr} {ifs : List Expr} {scope : Scope} {own : List (Str × Nat)} {pos : Pos} {mI m2 m3 : List Nat} {muI mc me : Bool} {p : Pat} {fi : IF β} {fc : TF β} {fe : EF β} (hc : X.calm = true) (hN : X.N.Nodup) (hi : VI X B tg iter fi mI muI) (ok : BlkOk X.N X.env.scope scope own) (hix : ∀ j ∈ p.ix, j ∈ own.map (·.2))
    (hg : ∀ (s : Shared) (H : Hp) (C : Addr) (cl : List (Str × Addr)) (fp : List Addr), PG (X.blk s H scope (compEnvC scope cl C X.env) fp) tg (gP X.K p)) (ht : ∀ (s : Shared) (H : Hp) (C : Addr) (cl : List (Str × Addr)) (fp : List Addr), PTs (X.blk s H scope (compEnvC scope cl C X.env) fp) ifs (tT X.K B fc m2 mc))
    (he : ∀ (s : Shared) (H : Hp) (C : Addr) (cl : List (Str × Addr)) (fp : List Addr), VE (X.blk s H scope (compEnvC scope cl C X.env) fp) B elt fe m3 me) (hs : ∀ x, foldedSetIterable iter X.env x = pure x := by intro _; rfl) :
    VE X B (.ListComp elt [⟨tg, iter, ifs, 0⟩] scope pos) (fComp mI (own.map (·.2)) p (mc || me) fi fc fe) (mI ++ (m2 ++ m3)) (muI || (mc || me)) :=
  PE_con (pe_lc (te := tE X.K B fe m3 me) hc hN hi ok hg ht he hs) fun σ H Q q => comp_con hix σ H Q q
/-- name = [..] -/
theorem sSetC {i : Nat} {y : Str} {py : Pos} {elt tg iter : Expr} {ifs : List Expr} {scope : Scope} {own : List (Str × Nat)} {pos spos : Pos} {mI m2 m3 : List Nat} {muI mc me : Bool} {p : Pat} {fi : IF β} {fc : TF β} {fe : EF β} (hc : X.calm = true) (hN : X.N.Nodup) (hy : X.N[i]? = some y) (hyl : X.env.scope.names.lookup y = some .local)
    (hsw : swapsWith (.ListComp elt [⟨tg, iter, ifs, 0⟩] scope pos) (some (.Name y py)) spos.line X.env = pure true) (hi : VI X B tg iter fi mI muI) (ok : BlkOk X.N X.env.scope scope own) (hix : ∀ j ∈ p.ix, j ∈ own.map (·.2))
    (hg : ∀ (s : Shared) (H : Hp) (C : Addr) (cl : List (Str × Addr)) (fp : List Addr), PG (X.blk s H scope (compEnvC scope cl C X.env) fp) tg (gP X.K p)) (ht : ∀ (s : Shared) (H : Hp) (C : Addr) (cl : List (Str × Addr)) (fp : List Addr), PTs (X.blk s H scope (compEnvC scope cl C X.env) fp) ifs (tT X.K B fc m2 mc))
    (he : ∀ (s : Shared) (H : Hp) (C : Addr) (cl : List (Str × Addr)) (fp : List Addr), VE (X.blk s H scope (compEnvC scope cl C X.env) fp) B elt fe m3 me) (hs : ∀ x, foldedSetIterable iter X.env x = pure x := by intro _; rfl) :
    VS X B (.Assign [.Name y py] (.ListComp elt [⟨tg, iter, ifs, 0⟩] scope pos) spos) (fAsg (mI ++ (m2 ++ m3)) (.nm i) (fComp mI (own.map (·.2)) p (mc || me) fi fc fe)) := by
  refine PS_con (ps_setLc (te := tE X.K B fe m3 me) hc hN hy hyl hsw hi ok hg ht he hs) fun D σ H q => ?_
  have q' := asg_con (e := .Name y py) (f := fComp mI (own.map (·.2)) p (mc || me) fi fc fe) (m := mI ++ (m2 ++ m3)) (mu := muI || (mc || me)) (X := X) (B := B) D σ H q
  exact comp_con hix σ H _ q'
end
end Vv

set_option Elab.async false
set_option linter.all false
set_option maxRecDepth 100000
set_option autoImplicit false
set_option maxHeartbeats 4000000
/-! Vv, part 7: what a def promises, its call, its body. -/
namespace Vv
open PySem PySem.Spec PyProof.Rows L2
variable {β : Type}
abbrev FF (β : Type) := List R → β → Option (R × Bool × β)
inductive RRA (K : PySem.W.Frag) (pb : Addr) (H : Hp) : List V → List R → List (List Addr) → Prop
  | nil : RRA K pb H [] [] []
  | cons {v : V} {vs : List V} {r : R} {rs : List R} {F : List Addr} {G : List (List Addr)} : RR K pb H v r F → RRA K pb H vs rs G → RRA K pb H (v :: vs) (r :: rs) (F :: G)
theorem rra_of {K : PySem.W.Frag} {pb : Addr} {H : Hp} : ∀ {cs : List Cm}, (∀ c ∈ cs, RR K pb H c.x c.v c.F) → RRA K pb H (cs.map (·.x)) (cs.map (·.v)) (cs.map (·.F))
  | [], _ => .nil
  | c :: cs, h => .cons (h c List.mem_cons_self) (rra_of fun d hd => h d (List.mem_cons_of_mem _ hd))
theorem RRA.get {K : PySem.W.Frag} {pb : Addr} {H : Hp} : ∀ {vs : List V} {rs : List R} {G : List (List Addr)} {i : Nat} {r : R}, RRA K pb H vs rs G → rs[i]? = some r → ∃ v, vs[i]? = some v ∧ RR K pb H v r (G.getD i [])
  | _, _, _, i, r, .nil, e => by simp at e
  | _, _, _, 0, r, .cons h t, e => by simp at e; subst e; exact ⟨_, rfl, h⟩
  | _, _, _, i + 1, r, .cons h t, e => by
    obtain ⟨v, e1, q⟩ := RRA.get t (i := i) (r := r) (by simpa using e)
    exact ⟨v, by simpa using e1, by simpa using q⟩
theorem RRA.length {K : PySem.W.Frag} {pb : Addr} {H : Hp} : ∀ {vs : List V} {rs : List R} {G : List (List Addr)}, RRA K pb H vs rs G → vs.length = rs.length
  | _, _, _, .nil => rfl
  | _, _, _, .cons h t => by rw [List.length_cons, List.length_cons, t.length]
/-- what is promised -/
structure FPost (K : PySem.W.Frag) (B : Bx β) (pb : Addr) (FB : List Addr) (H : Hp) (Fs : List Addr) (r : R) (fr : Bool) (b' : β) (x : V) (H' : Hp) (Fx : List Addr) : Prop where
  rr : RR K pb H' x r Fx
  bx : B.rep b' H' pb FB
  keep : ∀ a o, H a = some o → a ∉ FB → H' a = some o
  trk : ∀ a, H' a = none → H a = none
  tt : Tt H H'
  fr : fr = true → Fx.Nodup ∧ ∀ a ∈ Fx, H a = none
  src : ∀ a ∈ Fx, a ∈ Fs ∨ H a = none
def FnV (K : PySem.W.Frag) (B : Bx β) (n : Nat) (F : FF β) : Sp := fun vs H Q _ => ∃ (pb : Addr) (FB : List Addr) (rs : List R) (b : β) (G : List (List Addr)) (r : R) (fr : Bool) (b' : β), vs.length = n ∧ RRA K pb H vs rs G ∧ B.rep b H pb FB ∧ (∀ a ∈ G.flatten, a ∉ FB) ∧ F rs b = some (r, fr, b') ∧
  ∀ x H' Fx, FPost K B pb FB H G.flatten r fr b' x H' Fx → Q x H'
/-- a def of the module that keeps such a promise, called by its name -/
structure Fd (P : Program) (w : World) (K : PySem.W.Frag) (mg : Str → Option Value) (base : Heap) (B : Bx β) (x : Str) (k n : Nat) (F : FF β) : Prop where
  ex : ∃ (f : Addr) (fd : FuncData) (ps : List Str), mg x = some (.ref f) ∧ PySem.W.keepIn K (.ref f) = true ∧ Binds K fd ps [] ∧ FnOk P w K mg base CX0 k f fd ps (FnV K B n F)
theorem FnV.mono {K : PySem.W.Frag} {B : Bx β} {n : Nat} {F F' : FF β} (h : ∀ rs b z, F' rs b = some z → F rs b = some z) (vs : List V) (H : Hp) (Q : VK) (E : XK) (q : FnV K B n F' vs H Q E) : FnV K B n F vs H Q E := by
  obtain ⟨pb, FB, rs, b, G, r, fr, b', h1, h2, h3, h4, h5, h6⟩ := q
  exact ⟨pb, FB, rs, b, G, r, fr, b', h1, h2, h3, h4, h rs b _ h5, h6⟩
theorem Fd.mono {P : Program} {w : World} {K : PySem.W.Frag} {mg : Str → Option Value} {base : Heap} {B : Bx β} {x : Str} {k j n : Nat} {F F' : FF β} (f : Fd P w K mg base B x k n F) (hk : k ≤ j) (h : ∀ rs b z, F' rs b = some z → F rs b = some z) : Fd P w K mg base B x j n F' := by
  obtain ⟨f, fd, ps, h1, h2, h3, h4⟩ := f.ex
  exact ⟨f, fd, ps, h1, h2, h3, (h4.imp (FnV.mono h)).mono hk⟩
def fCall (F : FF β) (fa : AF β) : EF β := fun st => bA (fa st) fun vs s => match F (vs.map (·.1)) s.w with
  | some (r, fr, b') => some (r, fr || imR r, ⟨s.sl, b'⟩)
  | none => none
section
variable {K : PySem.W.Frag} {B : Bx β} {g : Gh} {st st' : S β} {fp fp' : Nat → List Addr} {σ : L2.St} {H H1 H2 : Hp}
theorem Res.call {m : List Nat} {mu : Bool} {cs : List Cm} {r : R} {fr : Bool} {b' : β} {x : V} {Fx : List Addr} (h0 : Rel K B g st fp σ H) (q : Res K B g m mu st fp σ H st' fp' H1 cs) (p : FPost K B g.pb g.FB H1 (cs.map (·.F)).flatten r fr b' x H2 Fx) :
    Res K B g m mu st fp σ H ⟨st'.sl, b'⟩ fp' H2 [⟨x, r, fr || imR r, Fx⟩] := by
  have newNb : ∀ a, H1 a = none → a ∉ g.FB ∧ a ∉ g.X := fun a z => ⟨fun ha => B.trk q.rel.bx a ha z, fun ha => q.rel.xt a ha z⟩
  refine ⟨Rel.moved q.rel (fun a o e n _ => p.keep a o e n) p.trk p.tt p.bx, q.sub, fun a o e n1 n2 n3 => p.keep a o (q.keep a o e n1 n2 n3) n2, fun a z => q.trk a (p.trk a z), q.tt.trans p.tt, fun c hc => ?_, .cons (fun _ h => (nomatch h)) List.Pairwise.nil, fun e => ?_⟩
  · have : c = ⟨x, r, fr || imR r, Fx⟩ := by simpa using hc
    subst this
    have hs : ∀ a ∈ Fx, (∃ c ∈ cs, a ∈ c.F) ∨ H1 a = none := fun a ha => (p.src a ha).elim (fun z => .inl (mem_flat z)) .inr
    refine ⟨p.rr, fun f => ?_, fun i y e ni a ha z => ?_, fun a ha => ?_, fun a ha => ?_⟩
    · rcases Bool.or_eq_true _ _ ▸ f with f | f
      · obtain ⟨f1, f2⟩ := p.fr f
        exact ⟨f1, fun i y o e a ha z => q.rel.trk e a z (f2 a ha), fun a ha => .inr (q.trk a (f2 a ha))⟩
      · have e : Fx = [] := p.rr.im f
        show Fx.Nodup ∧ (∀ i y o, st'.sl[i]? = some (some (y, o)) → ∀ a ∈ Fx, a ∉ fp' i) ∧ ∀ a ∈ Fx, Own st fp a ∨ H a = none
        rw [e]
        exact ⟨List.nodup_nil, fun _ _ _ _ a ha => (nomatch ha), fun a ha => (nomatch ha)⟩
    · rcases hs a ha with ⟨c, hc, h⟩ | h
      · exact (q.each c hc).ali i y e ni a h z
      · exact q.rel.trk e a z h
    · rcases hs a ha with ⟨c, hc, h⟩ | h
      · exact (q.each c hc).src a h
      · exact .inr (.inr (.inr (q.trk a h)))
    · rcases hs a ha with ⟨c, hc, h⟩ | h
      · exact (q.each c hc).nb a h
      · exact newNb a h
  · obtain ⟨p1, p2, p3⟩ := q.pure e
    exact ⟨p1, p2, fun a o e n2 n3 => p.keep a o (p3 a o e n2 n3) n2⟩
end
section
variable {X : Cx} {B : Bx β}
/-- how many arguments -/
def aLen (n : Nat) (fa : AF β) : Prop := ∀ st vs s, fa st = some (vs, s) → vs.length = n
theorem aLen0 : aLen 0 (fN : AF β) := fun st vs s e => by cases e; rfl
theorem aLenC {n : Nat} {mu : Bool} {f : EF β} {r : AF β} (h : aLen n r) : aLen (n + 1) (fCo mu f r) := fun st vs s e => by
  obtain ⟨v, fr, s1, e1, e⟩ := bE_inv e
  obtain ⟨ws, s2, e2, e⟩ := bA_inv e
  obtain ⟨hg, e⟩ := gd_inv e
  cases e
  rw [List.length_cons, h _ _ _ e2]
theorem call_con {F : FF β} {fa : AF β} {m : List Nat} {mu : Bool} {n : Nat} (hl : aLen n fa) (σ : L2.St) (H : Hp) (Q : VK) (q : tE X.K B (fCall F fa) m mu σ H Q) :
    tCall (FnV X.K B n F) [] E0 (tA X.K B fa m mu) σ H Q := by
  obtain ⟨g, st, fp, rel, v, fr, st', e, q⟩ := q
  obtain ⟨vs, s, e1, e⟩ := bA_inv e
  split at e
  · rename_i r fr' b' e2
    cases e
    refine ⟨g, st, fp, rel, vs, s, e1, fun cs fp1 H1 r1 hc => ?_⟩
    show FnV X.K B n F (cs.map (·.x) ++ []) H1 Q E0
    rw [List.append_nil]
    refine ⟨g.pb, g.FB, cs.map (·.v), s.w, cs.map (·.F), v, fr', b', ?_, rra_of fun c hc => (r1.each c hc).rr, r1.rel.bx, fun a ha => ?_, ?_, fun x H' Fx p => ?_⟩
    · rw [List.length_map, ← hl st vs s e1, ← hc, List.length_map]
    · obtain ⟨c, hc, h⟩ := mem_flat ha
      exact ((r1.each c hc).nb a h).1
    · rw [← hc, List.map_map] at e2
      exact e2
    · exact q x Fx fp1 H' (r1.call rel p)
  · cases e
theorem xCall {x : Str} {p pos : Pos} {e : Expr} {es : List Expr} {k n : Nat} {F : FF β} {fa : AF β} {m : List Nat} {mu : Bool} (f : Fd X.prog X.w X.K X.mg X.base B x k n F) (hr : Room k X.A) (hg : Gl X x) (ha : VA X B (e :: es) fa m mu) (hl : aLen n fa) (hdb : (x == ("__debug__" : Str)) = false := by decide)
    (he : starEach (e :: es) X.env = (false, eval e X.env) :: starEach es X.env := by rfl) (hpl : (backTo pos (starEach es X.env)).any (·.1) = false := by rfl) : VE X B (.Call (.Name x p) (e :: es) [] pos) (fCall F fa) m mu := by
  obtain ⟨f, fd, ps, hm, hk, hb, ok⟩ := f.ex
  exact PE_con (pe_call ok hr hg hm hk hb .nil pass0 ha hdb he hpl) fun σ H Q q => call_con hl σ H Q q
end

/-! ### a def's body -/
def initS (n : Nat) (rs : List R) (b : β) : S β := ⟨rs.map (fun r => some (r, false)) ++ List.replicate (n - rs.length) none, b⟩
def endF : Option (Out β) → Option (R × Bool × β)
  | some (.rt v fr s) => some (v, fr, s.w)
  | some (.nx s) => some (.d .none, true, s.w)
  | _ => none
def runF (n : Nat) (f : SF β) : FF β := fun rs b => endF (f (initS n rs b))
theorem init_rel {K : PySem.W.Frag} {B : Bx β} {pb : Addr} {FB : List Addr} {H : Hp} {vs : List V} {rs : List R} {b : β} {G : List (List Addr)} {N : List Str} (h : RRA K pb H vs rs G) (hb : B.rep b H pb FB) (hG : ∀ a ∈ G.flatten, a ∉ FB) (hl : vs.length ≤ N.length) :
    Rel K B ⟨pb, FB, [], H, G.flatten, []⟩ (initS N.length rs b) (fun i => G.getD i []) (start N vs) H := by
  have key : ∀ (i : Nat) (r : R) (o : Bool), (initS N.length rs b).sl[i]? = some (some (r, o)) → o = false ∧ rs[i]? = some r := fun i r o e => by
    have e : (rs.map (fun r => some (r, false)) ++ List.replicate (N.length - rs.length) (none : Sl))[i]? = some (some (r, o)) := e
    by_cases hi : i < rs.length
    · rw [List.getElem?_append_left (by simpa using hi), List.getElem?_map] at e
      cases q : rs[i]? with
      | none => rw [q] at e; cases e
      | some r' => rw [q] at e; cases e; exact ⟨rfl, rfl⟩
    · rw [List.getElem?_append_right (by simpa using hi), List.getElem?_replicate] at e
      split at e <;> cases e
  have inG : ∀ i, ∀ a ∈ G.getD i [], a ∈ G.flatten := fun i a ha => by
    rw [List.getD_eq_getElem?_getD] at ha
    cases q : G[i]? with
    | none => rw [q] at ha; cases ha
    | some F => rw [q] at ha; exact List.mem_flatten.mpr ⟨F, List.mem_of_getElem? q, ha⟩
  refine ⟨?_, fun i r o e => ?_, fun i r e => ?_, fun i j r r' o _ e => ?_, fun i r o e a ha => ⟨hG a (inG i a ha), (fun z => nomatch z)⟩, fun i r o e a ha => .inr (inG i a ha), hb, fun a ha => (nomatch ha), fun a ha => (nomatch ha), fun _ z => z⟩
  · have := h.length
    unfold L2.start initS
    simp [this]
  · obtain ⟨_, e1⟩ := key i r o e
    obtain ⟨v, e2, q⟩ := h.get e1
    refine ⟨v, ?_, q⟩
    have hi := (List.getElem?_eq_some_iff.mp e2).1
    unfold L2.start
    rw [List.getElem?_append_left (by simpa using hi), List.getElem?_map, e2]; rfl
  · exact absurd (key i r true e).1 (by decide)
  · exact absurd (key i r true e).1 (by decide)
/-- THE RULE for a def: its body's function -/
theorem fd_ok {P : Program} {w : World} {K : PySem.W.Frag} {mg : Str → Option Value} {base : Heap} {B : Bx β} {x qual : Str} {params : Arguments} {body : List Stmt} {scope : Scope} {kws : List (Str × V)} {f : Addr} {fd : FuncData} {N ps : List Str} {k : Nat} {fb : SF β}
    (F : FunD K x qual params body scope [] kws f fd) (S : FnScope N ps scope) (hm : mg x = some (.ref f)) (hb : Binds K fd ps [])
    (hbody : ∀ (cdv : Value) (A : Around) (outer : List Env) (s : Shared) (H : Hp) (E : XK), Room k (A.deeper (envOfC qual scope s.heap.objs.size f cdv)) → VSs (cxOf CX0 P w K mg base N qual scope f cdv A outer s H E).nox B body fb) :
    Fd P w K mg base B x (k + 1) ps.length (runF N.length fb) := by
  refine ⟨f, fd, ps, hm, F.kp, hb, F.ok S (fun vs H Q E h => ?_) fun cdv A outer s H vs Q E hr h => ⟨tS K B fb, PSs.nox (hbody cdv A outer s H E hr), ?_⟩⟩
  · obtain ⟨_, _, _, _, _, _, _, _, h, _⟩ := h
    exact h
  · obtain ⟨pb, FB, rs, b, G, r, fr, b', hl, hR, hB, hG, e, q⟩ := h
    have hN : vs.length ≤ N.length := by
      rw [hl, ← S.pre, List.length_take]
      exact Nat.min_le_right _ _
    have rel := init_rel hR hB hG hN
    have noOwn : ∀ a, ¬ Own (initS N.length rs b) (fun i => G.getD i []) a := fun a ⟨i, r, e, _⟩ => by
      have e : (rs.map (fun r => some (r, false)) ++ List.replicate (N.length - rs.length) (none : Sl))[i]? = some (some (r, true)) := e
      rcases List.mem_append.mp (List.mem_of_getElem? e) with z | z
      · obtain ⟨y, _, z⟩ := List.mem_map.mp z
        cases z
      · have := List.eq_of_mem_replicate z
        cases this
    have e' : endF (fb (initS N.length rs b)) = some (r, fr, b') := e
    cases eo : fb (initS N.length rs b) with
    | none => rw [eo] at e'; cases e'
    | some o =>
      rw [eo] at e'
      refine ⟨_, _, _, rel, o, eo, ?_⟩
      cases o with
      | bk s => cases e'
      | ct s => cases e'
      | rt v fr' s =>
        cases e'
        exact fun y Fy H' p => q y H' Fy ⟨p.rr, p.bx, fun a o e n => p.keep a o e (noOwn a) n (fun z => nomatch z), p.trk, p.tt, p.fr, fun a ha => (p.ar a ha).elim .inr .inl⟩
      | nx s =>
        cases e'
        exact fun σ' fp' H' r x => q .non H' [] ⟨.non, r.bx, fun a o e n => x.keep a o e (noOwn a) n (fun z => nomatch z), x.trk, x.tt, fun _ => ⟨List.nodup_nil, fun a ha => (nomatch ha)⟩, fun a ha => (nomatch ha)⟩
end Vv

set_option Elab.async false
set_option linter.all false
set_option maxRecDepth 100000
set_option autoImplicit false
set_option maxHeartbeats 4000000
/-! Vv, part 8: lists that are turned. -/
namespace Vv
open PySem PySem.Spec PyProof.Rows L2
variable {β : Type}
/-- a list within a value, at q; rb: the value with another list there -/
structure AtP (K : PySem.W.Frag) (H : Hp) (x : V) (F : List Addr) (q : Addr) (es : List PyData) (rb : PyData → PyData) (ys : List V) (G C : List Addr) : Prop where
  lst : H q = some (.lst ys)
  rp : RpA K H ys es G
  perm : F.Perm (q :: (G ++ C))
  re : ∀ (H' : Hp) (ys' : List V) (es' : List PyData) (G' : List Addr), Tt H H' → (∀ a ∈ C, ∀ o, H a = some o → H' a = some o) → H' q = some (.lst ys') → RpA K H' ys' es' G' → ∃ F', Rp K H' x (rb (.list es')) F' ∧ F'.Perm (q :: (G' ++ C))
def look0 (i : Nat) (s : S β) : Option (List PyData × (PyData → PyData)) := match s.sl[i]? with
  | some (some (.d (.list es), true)) => some (es, fun v => v)
  | _ => none
def look1 (i j : Nat) (s : S β) : Option (List PyData × (PyData → PyData)) := match s.sl[i]? with
  | some (some (.d (.list ds), true)) => (match ds[j]? with
    | some (.list es) => some (es, fun v => .list (ds.set j v))
    | _ => none)
  | _ => none
def look (i : Nat) (p : Option Nat) (s : S β) : Option (List PyData × (PyData → PyData)) := match p with
  | none => look0 i s
  | some j => look1 i j s
section
variable {K : PySem.W.Frag} {B : Bx β} {g : Gh} {st st' s : S β} {fp fp' : Nat → List Addr} {σ : L2.St} {H H' : Hp}
theorem RpA.at : ∀ {ds : List PyData} {xs : List V} {F : List Addr} {j : Nat} {d : PyData}, RpA K H xs ds F → ds[j]? = some d → ∃ v A G C, xs[j]? = some v ∧ Rp K H v d G ∧ F = A ++ (G ++ C) ∧
    ∀ (H' : Hp) (d' : PyData) (G' : List Addr), Tt H H' → (∀ a ∈ A ++ C, ∀ o, H a = some o → H' a = some o) → Rp K H' v d' G' → RpA K H' xs (ds.set j d') (A ++ (G' ++ C))
  | [], _, _, j, d, h, e => by simp at e
  | x :: ds, _, _, 0, d, h, e => by
    cases h with
    | @cons v vs _ _ F1 F2 r s =>
      simp at e; subst e
      exact ⟨v, [], F1, F2, rfl, r, rfl, fun H' d' G' t k r' => (show RpA K H' (v :: vs) (d' :: ds) (G' ++ F2) from RpA.cons r' (RpA.move t _ _ _ s k))⟩
  | x :: ds, _, _, j + 1, d, h, e => by
    cases h with
    | @cons v vs _ _ F1 F2 r s =>
      obtain ⟨w, A, G, C, h1, h2, h3, h4⟩ := RpA.at s (j := j) (d := d) (by simpa using e)
      refine ⟨w, F1 ++ A, G, C, by simpa using h1, h2, by rw [h3, List.append_assoc], fun H' d' G' t k r' => ?_⟩
      rw [List.append_assoc]
      refine .cons (r.move t _ _ _ fun a ha => k a (by simp [ha])) (h4 H' d' G' t (fun a ha => k a ?_) r')
      rcases List.mem_append.mp ha with z | z <;> simp [z]
theorem at_of {i : Nat} {p : Option Nat} {es : List PyData} {rb : PyData → PyData} (h : Rel K B g s fp σ H) (e : look i p s = some (es, rb)) : ∃ (x : V) (d : PyData) (q : Addr) (ys : List V) (G C : List Addr), σ[i]? = some (some x) ∧ s.sl[i]? = some (some (.d d, true)) ∧ AtP K H x (fp i) q es rb ys G C ∧
    (p = none → x = .ref q) ∧ (∀ j, p = some j → ∃ ds l xs, d = .list ds ∧ x = .ref l ∧ H l = some (.lst xs) ∧ xs[j]? = some (.ref q)) := by
  cases p with
  | none =>
    have e : look0 i s = some (es, rb) := e
    unfold look0 at e
    split at e
    · rename_i es' e1
      cases e
      obtain ⟨x, e2, rr⟩ := h.val i _ _ e1
      have rr : Rp K H x (.list es) (fp i) := rr
      generalize hF : fp i = F at rr
      cases rr with
      | @lst a xs _ G h1 h2 =>
        refine ⟨.ref a, .list es, a, xs, G, [], e2, e1, ⟨h1, h2, ?_, fun H' ys' es' G' t k h3 h4 => ⟨a :: G', .lst h3 h4, by simp⟩⟩, fun _ => rfl, fun j hj => (nomatch hj)⟩
        rw [List.append_nil]
    · cases e
  | some j =>
    have e : look1 i j s = some (es, rb) := e
    unfold look1 at e
    split at e
    · rename_i ds e1
      split at e
      · rename_i es' e3
        cases e
        obtain ⟨x, e2, rr⟩ := h.val i _ _ e1
        have rr : Rp K H x (.list ds) (fp i) := rr
        generalize hF : fp i = F at rr
        cases rr with
        | @lst a xs _ F0 h1 h2 =>
          obtain ⟨v, A, G, C, h3, h4, rfl, h5⟩ := RpA.at h2 e3
          cases h4 with
          | @lst q ys _ G0 h6 h7 =>
            refine ⟨.ref a, .list ds, q, ys, G0, a :: (A ++ C), e2, e1, ⟨h6, h7, ?_, fun H' ys' es' G' t k h8 h9 => ?_⟩, (fun z => (by cases z)), fun j' hj => ?_⟩
            · have p1 : (a :: (A ++ (q :: G0 ++ C))).Perm (q :: (G0 ++ (a :: (A ++ C)))) := by
                have p2 : (A ++ (q :: G0 ++ C)).Perm (q :: G0 ++ (A ++ C)) := by
                  rw [← List.append_assoc, ← List.append_assoc]
                  exact List.Perm.append_right _ List.perm_append_comm
                refine (List.Perm.cons a p2).trans ?_
                refine (List.Perm.swap q a (G0 ++ (A ++ C))).trans (List.Perm.cons q ?_)
                exact (List.perm_middle (a := a) (l₁ := G0) (l₂ := A ++ C)).symm
              exact p1
            · have na : ∀ b, b ∈ A ++ C → ∀ o, H b = some o → H' b = some o := fun b hb => k b (List.mem_cons_of_mem _ hb)
              refine ⟨a :: (A ++ ((q :: G') ++ C)), .lst (k a List.mem_cons_self _ h1) (h5 H' _ _ t na (.lst h8 h9)), ?_⟩
              have p2 : (A ++ (q :: G' ++ C)).Perm (q :: G' ++ (A ++ C)) := by
                rw [← List.append_assoc, ← List.append_assoc]
                exact List.Perm.append_right _ List.perm_append_comm
              refine (List.Perm.cons a p2).trans ?_
              refine (List.Perm.swap q a (G' ++ (A ++ C))).trans (List.Perm.cons q ?_)
              exact (List.perm_middle (a := a) (l₁ := G') (l₂ := A ++ C)).symm
            · cases hj
              exact ⟨ds, a, xs, rfl, rfl, h1, h3⟩
      · cases e
    · cases e
theorem AtP.move {x : V} {F : List Addr} {q : Addr} {es : List PyData} {rb : PyData → PyData} {ys : List V} {G C : List Addr} (h : AtP K H x F q es rb ys G C) (t : Tt H H') (k : ∀ a ∈ F, ∀ o, H a = some o → H' a = some o) : AtP K H' x F q es rb ys G C := by
  have inF : ∀ a, a ∈ q :: (G ++ C) → a ∈ F := fun a ha => h.perm.mem_iff.mpr ha
  refine ⟨k q (inF q List.mem_cons_self) _ h.lst, h.rp.move t _ _ _ fun a ha => k a (inF a (List.mem_cons_of_mem _ (List.mem_append_left _ ha))), h.perm, fun H2 ys' es' G' t' k' h1 h2 => ?_⟩
  exact h.re H2 ys' es' G' (t.trans t') (fun a ha o e => k' a ha o (k a (inF a (List.mem_cons_of_mem _ (List.mem_append_right _ ha))) o e)) h1 h2
theorem set_id {l : L2.St} {i : Nat} {x : Option V} (h : l[i]? = some x) : l.set i x = l := by
  refine List.ext_getElem? fun j => ?_
  by_cases e : i = j
  · subst e
    obtain ⟨hl, _⟩ := List.getElem?_eq_some_iff.mp h
    rw [List.getElem?_set_self hl, h]
  · rw [List.getElem?_set_ne e]
/-- one list of an own value is turned -/
theorem Rel.mut {i : Nat} {d v' : PyData} {o : Bool} {x : V} {q : Addr} {ys : List V} {F' : List Addr} (h : Rel K B g s fp σ H) (e : s.sl[i]? = some (some (.d d, true))) (hx : σ[i]? = some (some x)) (hq : q ∈ fp i) (rr : Rp K (upd H q (.lst ys)) x v' F')
    (ho : o = true → F'.Nodup ∧ (∀ a ∈ F', g.H0 a = none ∧ a ∉ g.hid) ∧ ∀ j r o', j ≠ i → s.sl[j]? = some (some (r, o')) → ∀ a ∈ F', a ∉ fp j)
    (hj : ∀ j r, j ≠ i → s.sl[j]? = some (some (r, true)) → ∀ a ∈ F', a ∉ fp j) (nb : ∀ a ∈ F', a ∉ g.FB ∧ a ∉ g.X) (ar : ∀ a ∈ F', g.H0 a = none ∨ a ∈ g.Fa) :
    Rel K B g (setS i (.d v') o s) (fun j => if j = i then F' else fp j) σ (upd H q (.lst ys)) := by
  have own : Own s fp q := ⟨i, _, e, hq⟩
  obtain ⟨xs, tq⟩ := (h.val i _ _ e).choose_spec.2.trk q hq
  have nqi : ∀ j r o, (wipeS [i] s).sl[j]? = some (some (r, o)) → q ∉ fp j := fun j r o e' z => by
    obtain ⟨e1, nj⟩ := wipeL_some e'
    exact h.dj i j _ r o (fun w => nj (by rw [w]; exact List.mem_cons_self)) e e1 q hq z
  have h1 : Rel K B g (wipeS [i] s) fp σ H := Rel.reslot (σ2 := σ) h rfl fun _ _ => rfl
  have h2 := h1.addX (D := q) (by rw [tq]; simp) nqi fun z => (h.hd q z).2.1 own
  have tr : ∀ a, upd H q (.lst ys) a = none → H a = none := fun a z => by
    by_cases w : a = q
    · subst w; rw [upd_same] at z; cases z
    · rw [upd_ne w] at z; exact z
  have tt : Tt H (upd H q (.lst ys)) := ⟨fun a xs e => by rw [upd_ne (fun z => by subst z; rw [tq] at e; cases e)]; exact e, fun a ob u e => by rw [upd_ne (fun z => by subst z; rw [tq] at e; cases e)]; exact e⟩
  have h3 := Rel.moved (w' := s.w) (H' := upd H q (.lst ys)) h2 (fun a ob e _ n => by rw [upd_ne (fun z => n (by rw [z]; exact List.mem_cons_self))]; exact e) tr tt (B.same h.bx fun a ha ob e' => by
    rw [upd_ne (fun z => (h.nb i _ _ e q hq).1 (by rw [← z]; exact ha))]; exact e')
  have h4 := h3.dropX.bind (i := i) (x := x) (v := .d v') (o := o) (F := F') rr (fun f => ?_) (fun j r ne e' => ?_) nb ar
  · rw [set_id hx] at h4
    have e5 : setS i (.d v') o (⟨(wipeS [i] s).sl, s.w⟩ : S β) = setS i (.d v') o s := by
      show (⟨((s.sl.set i none).set i (some (R.d v', o))), s.w⟩ : S β) = ⟨s.sl.set i (some (R.d v', o)), s.w⟩
      rw [List.set_set]
    rw [e5] at h4
    exact h4
  · obtain ⟨f1, f2, f3⟩ := ho f
    exact ⟨f1, f2, fun j r o' ne e' => f3 j r o' ne (wipeL_some e').1⟩
  · exact hj j r ne (wipeL_some e').1
/-- .. behind a start -/
theorem Ext.mut {st0 : S β} {fp0 : Nat → List Addr} {H0 : Hp} {i : Nat} {d v' : PyData} {o : Bool} {q : Addr} {ys : List V} {F' : List Addr} (x : Ext g st0 fp0 H0 s fp H) (h : Rel K B g s fp σ H) (e : s.sl[i]? = some (some (.d d, true))) (hq : q ∈ fp i) (hF : o = true → ∀ a ∈ F', Own st0 fp0 a ∨ H0 a = none) :
    Ext g st0 fp0 H0 (setS i (.d v') o s) (fun j => if j = i then F' else fp j) (upd H q (.lst ys)) := by
  have own : Own s fp q := ⟨i, _, e, hq⟩
  obtain ⟨xs, tq⟩ := (h.val i _ _ e).choose_spec.2.trk q hq
  refine ⟨fun a ob e1 n1 n2 n3 => ?_, fun a z => ?_, fun a z => x.trk a ?_, x.tt.trans ⟨fun a xs e => by rw [upd_ne (fun z => by subst z; rw [tq] at e; cases e)]; exact e, fun a ob u e => by rw [upd_ne (fun z => by subst z; rw [tq] at e; cases e)]; exact e⟩⟩
  · rw [upd_ne (fun z => ?_)]
    · exact x.keep a ob e1 n1 n2 n3
    · subst z
      rcases x.grow a own with w | w
      · exact n1 w
      · rw [w] at e1; cases e1
  · rcases own_set z with ⟨f, z⟩ | z
    · exact hF f a z
    · exact x.grow a z
  · by_cases w : a = q
    · subst w; rw [upd_same] at z; cases z
    · rw [upd_ne w] at z; exact z
end

/-! ### the receiver of a method that turns it -/
abbrev PF (β : Type) := S β → Option (Option Nat × S β)
def pl0 (i : Nat) : PF β := fun st => match look i none st with
  | some _ => some (none, st)
  | none => none
def pl1 (i : Nat) (f : EF β) : PF β := fun st => match look0 i st with
  | some _ => bE (f st) fun v _ s => match v, look0 i s with
    | .d (.int k), some (ds, _) => (match ixN ds.length k with
      | some j => (match look i (some j) s with
        | some _ => some (some j, s)
        | none => none)
      | none => none)
    | _, _ => none
  | none => none
def tP (K : PySem.W.Frag) (B : Bx β) (i : Nat) (f : PF β) (m : List Nat) : TE := fun σ H Q => ∃ g st fp, Rel K B g st fp σ H ∧ ∃ p st', f st = some (p, st') ∧
  ∀ fp' H' x d q es rb ys G C, Res K B g m false st fp σ H st' fp' H' [] → look i p st' = some (es, rb) → σ[i]? = some (some x) → st'.sl[i]? = some (some (.d d, true)) → AtP K H' x (fp' i) q es rb ys G C → (p = none → x = .ref q) → Q (.ref q) H'
abbrev VP (X : Cx) (B : Bx β) (e : Expr) (i : Nat) (f : PF β) (m : List Nat) : Prop := PE X e (tP X.K B i f m)
section
variable {X : Cx} {B : Bx β}
theorem rpl0 {i : Nat} {e : Expr} (h : PE X e (tVar i)) : VP X B e i (pl0 (β := β) i) [i] := by
  refine PE_con h ?_
  rintro σ H Q ⟨g, st, fp, rel, p, st', e, q⟩
  unfold pl0 at e
  split at e
  · rename_i z e1
    cases e
    obtain ⟨es, rb⟩ := z
    obtain ⟨x, d, a, ys, G, C, h1, h2, h3, h4, _⟩ := at_of rel e1
    have := h4 rfl
    subst this
    exact ⟨_, h1, q fp H _ d a es rb ys G C (Res.refl rel) e1 h1 h2 h3 (fun _ => rfl)⟩
  · cases e
theorem rpl1 {i : Nat} {e a : Expr} {pos : Pos} {f : EF β} {m : List Nat} (h : PE X e (tVar i)) (ha : VE X B a f m false) (hs : PlainIx a) : VP X B (.Subscript e a pos) i (pl1 i f) (i :: m) := by
  refine PE_con (pe_ix ix_list h ha hs) ?_
  rintro σ H Q ⟨g, st, fp, rel, p, st', e, q⟩
  unfold pl1 at e
  split at e
  case h_2 => cases e
  rename_i z0 e0
  obtain ⟨es0, rb0⟩ := z0
  obtain ⟨x0, d0, a0, ys0, G0, C0, h1, h2, h3, h4, _⟩ := at_of (p := none) rel e0
  have := h4 rfl
  subst this
  obtain ⟨v, fr, s, e1, e⟩ := bE_inv e
  split at e
  case h_2 => cases e
  rename_i k ds rb1 e4
  split at e
  case h_2 => cases e
  rename_i j e2
  split at e
  case h_2 => cases e
  rename_i z e3
  cases e
  obtain ⟨es, rb⟩ := z
  refine ⟨.ref a0, h1, g, st, fp, rel, .d (.int k), fr, _, e1, fun y F fp1 H1 r1 => ?_⟩
  obtain ⟨rfl, rfl⟩ := rp_int r1.one
  obtain ⟨x, d, a, ys, G, C, k1, k2, k3, _, k5⟩ := at_of (p := some j) r1.rel e3
  rw [h1] at k1
  cases k1
  obtain ⟨ds', l, xs, rfl, hl, hl2, hx⟩ := k5 j rfl
  cases hl
  have e5 : ds = ds' := by
    unfold look0 at e4
    rw [k2] at e4
    cases e4
    rfl
  subst e5
  have hlen : xs.length = ds.length := by
    obtain ⟨z, ez, rr⟩ := r1.rel.val i _ _ k2
    rw [h1] at ez
    cases ez
    have rr : Rp X.K H1 (.ref a0) (.list ds) (fp1 i) := rr
    generalize fp1 i = F at rr
    cases rr with
    | lst q1 q2 =>
      rw [hl2] at q1
      cases q1
      exact q2.length
  refine ⟨a0, xs, k, .ref a, rfl, rfl, .of hl2, ?_, ?_⟩
  · unfold atI
    rw [hlen, e2]
    exact hx
  · exact q fp1 H1 _ _ a es rb ys G C (r1.weak (fun _ h => List.mem_cons_of_mem _ h) (fun h => h) (List.nil_sublist _)) e3 h1 k2 k3 (fun h => by cases h)
end
end Vv

set_option Elab.async false
set_option linter.all false
set_option maxRecDepth 100000
set_option autoImplicit false
set_option maxHeartbeats 4000000
/-! Vv, part 9: append, pop, item = .. -/
namespace Vv
open PySem PySem.Spec PyProof.Rows L2
variable {β : Type}
section
variable {K : PySem.W.Frag} {B : Bx β} {g : Gh} {st s1 s2 : S β} {fp fp1 fp2 : Nat → List Addr} {σ : L2.St} {H H1 H2 : Hp}
theorem RpA.setV : ∀ {ds : List PyData} {xs : List V} {F E : List Addr} {j : Nat} {d : PyData} {v : V}, RpA K H xs ds F → Rp K H v d E → j < ds.length → ∃ G Z, RpA K H (xs.set j v) (ds.set j d) G ∧ (G ++ Z).Perm (F ++ E)
  | [], _, _, _, j, d, v, h, r, hj => by simp at hj
  | x :: ds, _, _, E, 0, d, v, h, r, hj => by
    cases h with
    | @cons w vs _ _ F1 F2 r1 s =>
      refine ⟨E ++ F2, F1, .cons r s, ?_⟩
      rw [List.append_assoc, List.append_assoc]
      exact (List.perm_append_comm).trans (by rw [List.append_assoc]; exact (List.perm_append_comm_assoc _ _ _))
  | x :: ds, _, _, E, j + 1, d, v, h, r, hj => by
    cases h with
    | @cons w vs _ _ F1 F2 r1 s =>
      obtain ⟨G, Z, h1, h2⟩ := RpA.setV s r (j := j) (by simpa using hj)
      refine ⟨F1 ++ G, Z, .cons r1 h1, ?_⟩
      rw [List.append_assoc, List.append_assoc]
      exact List.Perm.append_left _ h2
theorem RpA.erase : ∀ {ds : List PyData} {xs : List V} {F : List Addr} {j : Nat} {d : PyData}, RpA K H xs ds F → ds[j]? = some d → ∃ v Gk G, xs[j]? = some v ∧ Rp K H v d Gk ∧ RpA K H (xs.eraseIdx j) (ds.eraseIdx j) G ∧ F.Perm (Gk ++ G)
  | [], _, _, j, d, h, e => by simp at e
  | x :: ds, _, _, 0, d, h, e => by
    cases h with
    | @cons w vs _ _ F1 F2 r1 s =>
      simp at e; subst e
      exact ⟨w, F1, F2, rfl, r1, s, .refl _⟩
  | x :: ds, _, _, j + 1, d, h, e => by
    cases h with
    | @cons w vs _ _ F1 F2 r1 s =>
      obtain ⟨v, Gk, G, h1, h2, h3, h4⟩ := RpA.erase s (j := j) (d := d) (by simpa using e)
      refine ⟨v, Gk, F1 ++ G, by simpa using h1, h2, .cons r1 h3, ?_⟩
      exact (List.Perm.append_left F1 h4).trans (List.perm_append_comm_assoc _ _ _)
theorem RpA.insert : ∀ {ds : List PyData} {xs : List V} {F E : List Addr} {j : Nat} {d : PyData} {v : V}, RpA K H xs ds F → Rp K H v d E → ∃ G, RpA K H (xs.take j ++ v :: xs.drop j) (ds.take j ++ d :: ds.drop j) G ∧ G.Perm (F ++ E)
  | ds, xs, F, E, 0, d, v, h, r => ⟨E ++ F, by simpa using RpA.cons r h, List.perm_append_comm⟩
  | [], _, _, E, j + 1, d, v, h, r => by cases h; exact ⟨E ++ [], by simpa using RpA.cons r .nil, by simp⟩
  | x :: ds, _, _, E, j + 1, d, v, h, r => by
    cases h with
    | @cons w vs _ _ F1 F2 r1 s =>
      obtain ⟨G, h1, h2⟩ := RpA.insert s r (j := j)
      refine ⟨F1 ++ G, by simpa using RpA.cons r1 h1, ?_⟩
      rw [List.append_assoc]
      exact List.Perm.append_left _ h2
theorem look_sl {i : Nat} {p : Option Nat} {s s' : S β} (h : s'.sl = s.sl) : look i p s' = look i p s := by
  cases p <;> (unfold look look0 look1; rw [h])
/-- behind an argument, the list is where it was -/
theorem place_arg {i : Nat} {p : Option Nat} {m : List Nat} {mu : Bool} {cs : List Cm} {x : V} {d : PyData} {q : Addr} {es es2 : List PyData} {rb rb2 : PyData → PyData} {ys : List V} {G C : List Addr} (e1 : look i p s1 = some (es, rb)) (hx : σ[i]? = some (some x)) (hs : s1.sl[i]? = some (some (.d d, true)))
    (rel1 : Rel K B g s1 fp1 σ H1) (ap : AtP K H1 x (fp1 i) q es rb ys G C) (hp : p = none → x = .ref q) (r : Res K B g m mu s1 fp1 σ H1 s2 fp2 H2 cs) (hmu : mu = true → p = none) (e2 : look i p s2 = some (es2, rb2)) :
    ∃ d2 ys2 G2 C2, s2.sl[i]? = some (some (.d d2, true)) ∧ AtP K H2 x (fp2 i) q es2 rb2 ys2 G2 C2 := by
  cases p with
  | none =>
    obtain ⟨x', d2, q2, ys2, G2, C2, h1, h2, h3, h4, _⟩ := at_of r.rel e2
    rw [hx] at h1
    cases h1
    have a1 := hp rfl
    rw [h4 rfl] at a1
    cases a1
    exact ⟨d2, ys2, G2, C2, h2, h3⟩
  | some j =>
    have hm : mu = false := by
      cases h : mu with
      | false => rfl
      | true => have := hmu h; cases this
    obtain ⟨p1, p2, p3⟩ := r.pure hm
    rw [look_sl p1, e1] at e2
    cases e2
    subst p2
    exact ⟨d, ys, G, C, by rw [p1]; exact hs, ap.move r.tt fun a ha o e => p3 a o e (rel1.nb i _ _ hs a ha).1 (rel1.nb i _ _ hs a ha).2⟩
/-- the list is turned -/
theorem turned {i : Nat} {o : Bool} {x : V} {d : PyData} {q : Addr} {es es' : List PyData} {rb : PyData → PyData} {ys ys' : List V} {G C G' E Z : List Addr} (rel : Rel K B g s2 fp2 σ H2) (x02 : Ext g st fp H s2 fp2 H2) (hs : s2.sl[i]? = some (some (.d d, true))) (hx : σ[i]? = some (some x))
    (ap : AtP K H2 x (fp2 i) q es rb ys G C) (ra : RpA K H2 ys' es' G') (hP : (G' ++ Z).Perm (G ++ E)) (bd : Bd g s2 fp2 o E) (gr : o = true → ∀ a ∈ E, Own st fp a ∨ H a = none) :
    ∃ fp3, Rel K B g (setS i (.d (rb (.list es'))) o s2) fp3 σ (upd H2 q (.lst ys')) ∧ Ext g st fp H (setS i (.d (rb (.list es'))) o s2) fp3 (upd H2 q (.lst ys')) ∧ (fp3 i).Perm (q :: (G' ++ C)) ∧ ∀ j, j ≠ i → fp3 j = fp2 j := by
  have inF : ∀ a, a ∈ fp2 i ↔ a ∈ q :: (G ++ C) := fun a => ap.perm.mem_iff
  have hq : q ∈ fp2 i := (inF q).mpr List.mem_cons_self
  have nd0 := rel.nd i _ hs
  have nd1 : (q :: (G ++ C)).Nodup := ap.perm.nodup_iff.mp nd0.1
  have own : ∀ a ∈ fp2 i, Own s2 fp2 a := fun a ha => ⟨i, _, hs, ha⟩
  have nE : ∀ a ∈ E, a ∉ fp2 i := fun a ha z => bd.al a ha (own a z)
  have hG : ∀ a ∈ G', a ∈ G ∨ a ∈ E := fun a ha => List.mem_append.mp (hP.mem_iff.mp (List.mem_append_left _ ha))
  have GinF : ∀ a ∈ G, a ∈ fp2 i := fun a ha => (inF a).mpr (List.mem_cons_of_mem _ (List.mem_append_left _ ha))
  have CinF : ∀ a ∈ C, a ∈ fp2 i := fun a ha => (inF a).mpr (List.mem_cons_of_mem _ (List.mem_append_right _ ha))
  have qG : q ∉ G' := fun z => (hG q z).elim (fun z => (List.nodup_cons.mp nd1).1 (List.mem_append_left _ z)) fun z => nE q z hq
  have qC : q ∉ C := fun z => (List.nodup_cons.mp nd1).1 (List.mem_append_right _ z)
  have tt : Tt H2 (upd H2 q (.lst ys')) := ⟨fun a xs e => by rw [upd_ne (fun z => by subst z; rw [ap.lst] at e; cases e)]; exact e, fun a ob u e => by rw [upd_ne (fun z => by subst z; rw [ap.lst] at e; cases e)]; exact e⟩
  have k : ∀ a, a ≠ q → ∀ o, H2 a = some o → upd H2 q (.lst ys') a = some o := fun a n o e => by rw [upd_ne n]; exact e
  obtain ⟨F', rr, pm⟩ := ap.re (upd H2 q (.lst ys')) ys' es' G' tt (fun a ha => k a fun z => qC (by rw [← z]; exact ha)) upd_same (ra.move tt _ _ _ fun a ha => k a fun z => qG (by rw [← z]; exact ha))
  have inF' : ∀ a ∈ F', a ∈ fp2 i ∨ a ∈ E := fun a ha => by
    rcases List.mem_cons.mp (pm.mem_iff.mp ha) with z | z
    · rw [z]; exact .inl hq
    · rcases List.mem_append.mp z with z | z
      · exact (hG a z).imp (GinF a) id
      · exact .inl (CinF a z)
  refine ⟨_, rel.mut hs hx hq rr (fun f => ⟨?_, fun a ha => ?_, fun j r o' ne e a ha => ?_⟩) (fun j r ne e a ha => ?_) (fun a ha => ?_) (fun a ha => ?_), x02.mut rel hs hq fun f a ha => ?_, ?_, fun j hj => if_neg hj⟩
  · refine pm.nodup_iff.mpr (List.nodup_cons.mpr ⟨fun z => (List.mem_append.mp z).elim qG qC, ?_⟩)
    have n1 : (G ++ C).Nodup := (List.nodup_cons.mp nd1).2
    have n2 : (G ++ E).Nodup := List.nodup_append.mpr ⟨(List.nodup_append.mp n1).1, (bd.fr f).1, fun a ha b hb z => nE b hb (by rw [← z]; exact GinF a ha)⟩
    have n3 : G'.Nodup := (List.nodup_append.mp (hP.nodup_iff.mpr n2)).1
    refine List.nodup_append.mpr ⟨n3, (List.nodup_append.mp n1).2.1, fun a ha b hb z => ?_⟩
    subst z
    rcases hG a ha with z | z
    · exact (List.nodup_append.mp n1).2.2 a z a hb rfl
    · exact nE a z (CinF a hb)
  · rcases inF' a ha with z | z
    · exact ⟨nd0.2 a z, fun w => (rel.hd a w).2.1 (own a z)⟩
    · exact (bd.fr f).2.1 a z
  · rcases inF' a ha with z | z
    · exact rel.dj i j _ r o' (Ne.symm ne) hs e a z
    · exact (bd.fr f).2.2 j r o' e a z
  · rcases inF' a ha with z | z
    · exact rel.dj i j _ r true (Ne.symm ne) hs e a z
    · exact fun w => bd.al a z ⟨j, r, e, w⟩
  · rcases inF' a ha with z | z
    · exact rel.nb i _ _ hs a z
    · exact bd.nb a z
  · rcases inF' a ha with z | z
    · exact rel.ar i _ _ hs a z
    · exact bd.ar a z
  · rcases inF' a ha with z | z
    · exact x02.grow a (own a z)
    · exact gr f a z
  · show (if i = i then F' else fp2 i).Perm _
    rw [if_pos rfl]
    exact pm
end
def bP {γ : Type} (x : Option (Option Nat × S β)) (k : Option Nat → S β → Option γ) : Option γ := match x with
  | some (p, s) => k p s
  | none => none
@[simp] theorem bP_some {γ : Type} (p : Option Nat) (s : S β) (k : Option Nat → S β → Option γ) : bP (some (p, s)) k = k p s := rfl
theorem bP_inv {γ : Type} {x : Option (Option Nat × S β)} {k : Option Nat → S β → Option γ} {z : γ} (h : bP x k = some z) : ∃ p s, x = some (p, s) ∧ k p s = some z := by
  match x, h with
  | some (p, s), h => exact ⟨p, s, rfl, h⟩
def bK {γ : Type} (x : Option (List PyData × (PyData → PyData))) (k : List PyData → (PyData → PyData) → Option γ) : Option γ := match x with
  | some (es, rb) => k es rb
  | none => none
@[simp] theorem bK_some {γ : Type} (es : List PyData) (rb : PyData → PyData) (k : List PyData → (PyData → PyData) → Option γ) : bK (some (es, rb)) k = k es rb := rfl
theorem bK_inv {γ : Type} {x : Option (List PyData × (PyData → PyData))} {k : List PyData → (PyData → PyData) → Option γ} {z : γ} (h : bK x k = some z) : ∃ p s, x = some (p, s) ∧ k p s = some z := by
  match x, h with
  | some (p, s), h => exact ⟨p, s, rfl, h⟩
/-- the end of a turn by one argument -/
def fin1 (i : Nat) (m : List Nat) (fr : Bool) (v : PyData) (s : S β) : Option (S β) := if fr then some (setS i (.d v) true s) else gd (!m.contains i) (some (setS i (.d v) false (frzS m s)))
def fApp (i : Nat) (m : List Nat) (mu : Bool) (pl : PF β) (fe : EF β) : SF β := fun st => bP (pl st) fun p s1 => bE (fe s1) fun v fr s2 => gd (!mu || p.isNone) (bK (look i p s2) fun es rb => match v with
  | .d d => gd (decide (es.length < sizeLine)) (match fin1 i m fr (rb (.list (es ++ [d]))) s2 with
    | some s => some (.nx s)
    | none => none)
  | .box => none)
def fIns (i : Nat) (m : List Nat) (mu : Bool) (pl : PF β) (fk fe : EF β) : SF β := fun st => bP (pl st) fun p s1 => bE (fk s1) fun k _ s1' => bE (fe s1') fun v fr s2 => gd (!mu || p.isNone) (bK (look i p s2) fun es rb => match k, v with
  | .d (.int z), .d d => gd (decide (es.length < sizeLine) && decide (0 ≤ z ∧ z ≤ es.length)) (match fin1 i m fr (rb (.list (es.take z.toNat ++ d :: es.drop z.toNat))) s2 with
    | some s => some (.nx s)
    | none => none)
  | _, _ => none)
def fExt (i : Nat) (m : List Nat) (mu : Bool) (pl : PF β) (fe : EF β) : SF β := fun st => bP (pl st) fun p s1 => bE (fe s1) fun v fr s2 => gd (!mu || p.isNone) (bK (look i p s2) fun es rb => match v with
  | .d (.list ds) => gd (decide (es.length + ds.length ≤ sizeLine)) (match fin1 i m fr (rb (.list (es ++ ds))) s2 with
    | some s => some (.nx s)
    | none => none)
  | _ => none)
section
variable {K : PySem.W.Frag} {B : Bx β} {g : Gh} {st s1 s2 : S β} {fp fp1 fp2 : Nat → List Addr} {σ : L2.St} {H H1 H2 : Hp}
/-- by one argument, E of its parts within the list from now on -/
theorem turn1 {i : Nat} {m : List Nat} {mu : Bool} {c : Cm} {cs : List Cm} {x : V} {d : PyData} {q : Addr} {es es' : List PyData} {rb : PyData → PyData} {ys ys' : List V} {G C G' E Z : List Addr} {s3 : S β} (rel : Rel K B g st fp σ H) (r : Res K B g m mu st fp σ H s2 fp2 H2 cs) (hc : c ∈ cs) (hs : s2.sl[i]? = some (some (.d d, true))) (hx : σ[i]? = some (some x))
    (ap : AtP K H2 x (fp2 i) q es rb ys G C) (ra : RpA K H2 ys' es' G') (hP : (G' ++ Z).Perm (G ++ E)) (hE : E.Sublist c.F) (e : fin1 i m c.fr (rb (.list es')) s2 = some s3) :
    ∃ fp3, Rel K B g s3 fp3 σ (upd H2 q (.lst ys')) ∧ Ext g st fp H s3 fp3 (upd H2 q (.lst ys')) := by
  have bd := (r.bd rel hc).sub hE
  have q0 := r.each c hc
  unfold fin1 at e
  cases hf : c.fr with
  | true =>
    rw [hf, if_pos rfl] at e
    cases e
    rw [hf, if_pos rfl] at bd
    obtain ⟨fp3, h1, h2, _⟩ := turned (o := true) r.rel r.ext hs hx ap ra hP bd fun _ a ha => (q0.fr hf).2.2 a (hE.subset ha)
    exact ⟨fp3, h1, h2⟩
  | false =>
    rw [hf, if_neg Bool.false_ne_true] at e
    obtain ⟨hm, e⟩ := gd_inv e
    cases e
    rw [hf, if_neg Bool.false_ne_true] at bd
    have hs' : (frzS m s2).sl[i]? = some (some (.d d, true)) := by
      show (frz m 0 s2.sl)[i]? = _
      rw [frz_get, hs]
      have : m.contains i = false := by simpa using hm
      simp only [Option.map_some, Nat.zero_add, this]
      rfl
    obtain ⟨fp3, h1, h2, _⟩ := turned (o := false) (r.rel.frz m) (r.ext.trans ext_frz) hs' hx ap ra hP bd fun z => by cases z
    exact ⟨fp3, h1, h2⟩
theorem tyL {p : Addr} {xs : List V} (h : H p = some (.lst xs)) : tyV K "list" (.ref p) H := Or.inl ⟨rfl, _, Or.inl (Or.inl h)⟩
end
section
variable {X : Cx} {B : Bx β} {pos : Pos}
theorem sApp {o e : Expr} {i : Nat} {pl : PF β} {fe : EF β} {m0 m : List Nat} {mu : Bool} {apos cpos : Pos} (ho : VP X B o i pl m0) (he : VE X B e fe m mu) (na : starEach [e] X.env = (false, eval e X.env) :: starEach [] X.env := by rfl)
    (hpe : ∀ {to : TE} {ta : TA}, PE X o to → PA X [e] ta → PE X (.Call (.Attribute o "append" apos) [e] [] cpos) (tBM X.K "list" rAppend to ta)) (hs : swapsWith (.Call (.Attribute o "append" apos) [e] [] cpos) none pos.line X.env = pure false := by rfl) :
    VS X B (.Expr (.Call (.Attribute o "append" apos) [e] [] cpos) pos) (fApp i m mu pl fe) := by
  refine PS_con (ps_expr (hpe ho (pa_cons he pa_nil na)) hs) ?_
  rintro D σ H ⟨g, st, fp, rel, out, e0, q⟩
  obtain ⟨p, s1, e1, e0⟩ := bP_inv e0
  obtain ⟨v, fr, s2, e2, e0⟩ := bE_inv e0
  obtain ⟨hg, e0⟩ := gd_inv e0
  obtain ⟨es, rb, e3, e0⟩ := bK_inv e0
  obtain ⟨d, rfl⟩ : ∃ d, v = R.d d := by
    split at e0
    · exact ⟨_, rfl⟩
    · cases e0
  obtain ⟨hz, e0⟩ := gd_inv e0
  split at e0
  case h_2 => cases e0
  rename_i s3 e4
  cases e0
  refine ⟨g, st, fp, rel, p, s1, e1, fun fp1 H1 x d1 a es1 rb1 ys1 G1 C1 r1 l1 hx hs1 ap1 hp => ?_⟩
  refine ⟨tyL ap1.lst, g, s1, fp1, r1.rel, _, fr, s2, e2, fun y F fp2 H2 r2 => ?_⟩
  obtain ⟨d2, ys2, G2, C2, hs2, ap2⟩ := place_arg l1 hx hs1 r1.rel ap1 hp r2 (fun hm => by rw [hm] at hg; cases p with | none => rfl | some j => cases hg) e3
  have hl := ap2.rp.length
  have hz := of_decide_eq_true hz
  refine ⟨a, ys2, y, rfl, rfl, ap2.lst, by omega, ?_⟩
  obtain ⟨fp3, rel3, x3⟩ := turn1 (Z := []) (E := F) (c := ⟨y, .d d, fr, F⟩) r1.rel r2 List.mem_cons_self hs2 hx ap2 (ap2.rp.append (.cons r2.one .nil)) (by simp) (List.Sublist.refl _) e4
  exact q σ fp3 _ rel3 (r1.ext.trans x3)
theorem sIns {o k e : Expr} {i : Nat} {pl : PF β} {fk fe : EF β} {m0 m1 m : List Nat} {mu : Bool} {apos cpos : Pos} (ho : VP X B o i pl m0) (hk : VE X B k fk m1 false) (he : VE X B e fe m mu) (na : starEach [k, e] X.env = (false, eval k X.env) :: starEach [e] X.env := by rfl) (nb : starEach [e] X.env = (false, eval e X.env) :: starEach [] X.env := by rfl)
    (hpe : ∀ {to : TE} {ta : TA}, PE X o to → PA X [k, e] ta → PE X (.Call (.Attribute o "insert" apos) [k, e] [] cpos) (tBM X.K "list" (fun x vs H Q => ∃ (l : Addr) (xs : List V) (i : Int) (y : V), x = .ref l ∧ vs = [.int i, y] ∧ H l = some (.lst xs) ∧ xs.length < sizeLine ∧ 0 ≤ i ∧ i < 2 ^ 63 ∧ Q .non (upd H l (.lst (xs.take (min i.toNat xs.length) ++ y :: xs.drop (min i.toNat xs.length))))) to ta)) (hs : swapsWith (.Call (.Attribute o "insert" apos) [k, e] [] cpos) none pos.line X.env = pure false := by rfl) :
    VS X B (.Expr (.Call (.Attribute o "insert" apos) [k, e] [] cpos) pos) (fIns i m mu pl fk fe) := by
  refine PS_con (ps_expr (hpe ho (pa_cons hk (pa_cons he pa_nil nb) na)) hs) ?_
  rintro D σ H ⟨g, st, fp, rel, out, e0, q⟩
  obtain ⟨p, s1, e1, e0⟩ := bP_inv e0
  obtain ⟨kv, frk, s1', ek, e0⟩ := bE_inv e0
  obtain ⟨v, fr, s2, e2, e0⟩ := bE_inv e0
  obtain ⟨hg, e0⟩ := gd_inv e0
  obtain ⟨es, rb, e3, e0⟩ := bK_inv e0
  obtain ⟨z, d, rfl, rfl⟩ : ∃ z d, kv = R.d (.int z) ∧ v = R.d d := by
    split at e0
    · exact ⟨_, _, rfl, rfl⟩
    · cases e0
  obtain ⟨hz, e0⟩ := gd_inv e0
  split at e0
  case h_2 => cases e0
  rename_i s3 e4
  cases e0
  refine ⟨g, st, fp, rel, p, s1, e1, fun fp1 H1 x d1 a es1 rb1 ys1 G1 C1 r1 l1 hx hs1 ap1 hp => ?_⟩
  refine ⟨tyL ap1.lst, g, s1, fp1, r1.rel, _, frk, s1', ek, fun yk Fk fpk Hk rk => ⟨g, s1', fpk, rk.rel, _, fr, s2, e2, fun y F fp2 H2 r2 => ?_⟩⟩
  obtain ⟨rfl, rfl⟩ := rp_int rk.one
  have r12 := Res.app r1.rel (rk.weak (fun _ h => h) (fun h => h) (List.nil_sublist _)) r2 fun _ c hc => (nomatch hc)
  obtain ⟨d2, ys2, G2, C2, hs2, ap2⟩ := place_arg l1 hx hs1 r1.rel ap1 hp r12 (fun hm => by
    have hm : mu = true := by simpa using hm
    rw [hm] at hg; cases p with | none => rfl | some j => cases hg) e3
  have hl := ap2.rp.length
  rw [Bool.and_eq_true] at hz
  have hz1 := of_decide_eq_true hz.1
  have hz2 := of_decide_eq_true hz.2
  have hsz : sizeLine = 16777216 := sizeLine_eq
  refine ⟨a, ys2, z, y, rfl, rfl, ap2.lst, by omega, hz2.1, by omega, ?_⟩
  have hmin : min z.toNat ys2.length = z.toNat := by omega
  rw [hmin]
  obtain ⟨G', ra, pm⟩ := RpA.insert (j := z.toNat) ap2.rp r2.one
  have rw2 : Res X.K B g m mu s1' fpk σ Hk s2 fp2 H2 [⟨y, .d d, fr, F⟩] := r2
  obtain ⟨fp3, rel3, x3⟩ := turn1 (Z := []) (E := F) (c := ⟨y, .d d, fr, F⟩) rk.rel r2 List.mem_cons_self hs2 hx ap2 ra (by simpa using pm) (List.Sublist.refl _) e4
  exact q σ fp3 _ rel3 ((r1.ext.trans rk.ext).trans x3)
theorem sExt {o e : Expr} {i : Nat} {pl : PF β} {fe : EF β} {m0 m : List Nat} {mu : Bool} {apos cpos : Pos} (ho : VP X B o i pl m0) (he : VE X B e fe m mu) (na : starEach [e] X.env = (false, eval e X.env) :: starEach [] X.env := by rfl)
    (hpe : ∀ {to : TE} {ta : TA}, PE X o to → PA X [e] ta → PE X (.Call (.Attribute o "extend" apos) [e] [] cpos) (tBM X.K "list" rExtend to ta)) (hs : swapsWith (.Call (.Attribute o "extend" apos) [e] [] cpos) none pos.line X.env = pure false := by rfl) :
    VS X B (.Expr (.Call (.Attribute o "extend" apos) [e] [] cpos) pos) (fExt i m mu pl fe) := by
  refine PS_con (ps_expr (hpe ho (pa_cons he pa_nil na)) hs) ?_
  rintro D σ H ⟨g, st, fp, rel, out, e0, q⟩
  obtain ⟨p, s1, e1, e0⟩ := bP_inv e0
  obtain ⟨v, fr, s2, e2, e0⟩ := bE_inv e0
  obtain ⟨hg, e0⟩ := gd_inv e0
  obtain ⟨es, rb, e3, e0⟩ := bK_inv e0
  obtain ⟨d, rfl⟩ : ∃ d, v = R.d (.list d) := by
    split at e0
    · exact ⟨_, rfl⟩
    · cases e0
  obtain ⟨hz, e0⟩ := gd_inv e0
  split at e0
  case h_2 => cases e0
  rename_i s3 e4
  cases e0
  refine ⟨g, st, fp, rel, p, s1, e1, fun fp1 H1 x d1 a es1 rb1 ys1 G1 C1 r1 l1 hx hs1 ap1 hp => ?_⟩
  refine ⟨tyL ap1.lst, g, s1, fp1, r1.rel, _, fr, s2, e2, fun y F fp2 H2 r2 => ?_⟩
  obtain ⟨d2, ys2, G2, C2, hs2, ap2⟩ := place_arg l1 hx hs1 r1.rel ap1 hp r2 (fun hm => by rw [hm] at hg; cases p with | none => rfl | some j => cases hg) e3
  have hl := ap2.rp.length
  have hz := of_decide_eq_true hz
  have rr : Rp X.K H2 y (.list d) F := r2.one
  have r2' := r2
  generalize hF : F = F0 at rr
  cases rr with
  | @lst b zs _ E h1 h2 =>
    have hl2 := h2.length
    refine ⟨a, b, ys2, zs, rfl, rfl, ap2.lst, h1, by omega, ?_⟩
    obtain ⟨fp3, rel3, x3⟩ := turn1 (Z := []) (E := E) (c := ⟨.ref b, .d (.list d), fr, F⟩) r1.rel r2' List.mem_cons_self hs2 hx ap2 (ap2.rp.append h2) (by simp) (by rw [hF]; exact List.sublist_cons_self _ _) e4
    exact q σ fp3 _ rel3 (r1.ext.trans x3)
end
end Vv

set_option Elab.async false
set_option linter.all false
set_option maxRecDepth 100000
set_option autoImplicit false
set_option maxHeartbeats 4000000
/-! Vv, part 10: pop, item = .., several names at once, op= -/
namespace Vv
open PySem PySem.Spec PyProof.Rows L2
variable {β : Type}
section
variable {K : PySem.W.Frag} {B : Bx β} {g : Gh} {st s1 s2 : S β} {fp fp1 fp2 : Nat → List Addr} {σ : L2.St} {H H1 H2 : Hp}
/-- an item is taken out -/
theorem Res.pop {i j : Nat} {m : List Nat} {mu : Bool} {cs : List Cm} {x v : V} {d d' : PyData} {q : Addr} {es : List PyData} {rb : PyData → PyData} {ys : List V} {G C Gk G' : List Addr} (rel : Rel K B g st fp σ H) (r : Res K B g m mu st fp σ H s2 fp2 H2 cs) (hs : s2.sl[i]? = some (some (.d d, true))) (hx : σ[i]? = some (some x))
    (ap : AtP K H2 x (fp2 i) q es rb ys G C) (rv : Rp K H2 v d' Gk) (ra : RpA K H2 (ys.eraseIdx j) (es.eraseIdx j) G') (hP : G.Perm (Gk ++ G')) :
    ∃ fp3, Res K B g m true st fp σ H (setS i (.d (rb (.list (es.eraseIdx j)))) true s2) fp3 (upd H2 q (.lst (ys.eraseIdx j))) [⟨v, .d d', true, Gk⟩] := by
  have nd0 := r.rel.nd i _ hs
  have bd : Bd g s2 fp2 true [] := ⟨fun _ => ⟨List.nodup_nil, fun a ha => (nomatch ha), fun _ _ _ _ a ha => (nomatch ha)⟩, fun a ha => (nomatch ha), fun a ha => (nomatch ha), fun a ha => (nomatch ha)⟩
  obtain ⟨fp3, rel3, x3, p3, o3⟩ := turned (o := true) (Z := Gk) r.rel r.ext hs hx ap ra (by rw [List.append_nil]; exact (List.perm_append_comm).trans hP.symm) bd fun _ a ha => (nomatch ha)
  have own : ∀ a ∈ fp2 i, Own s2 fp2 a := fun a ha => ⟨i, _, hs, ha⟩
  have nd1 : (q :: (G ++ C)).Nodup := ap.perm.nodup_iff.mp nd0.1
  have nd2 : (Gk ++ (q :: (G' ++ C))).Nodup := by
    have e : (q :: (G ++ C)).Perm (Gk ++ (q :: (G' ++ C))) := by
      have e1 : (G ++ C).Perm (Gk ++ (G' ++ C)) := by
        rw [← List.append_assoc]
        exact List.Perm.append_right _ hP
      exact (List.Perm.cons q e1).trans (List.perm_middle).symm
    exact e.nodup_iff.mp nd1
  have kF : ∀ a ∈ Gk, a ∈ fp2 i := fun a ha => ap.perm.mem_iff.mpr (List.mem_cons_of_mem _ (List.mem_append_left _ (hP.mem_iff.mpr (List.mem_append_left _ ha))))
  have k3 : ∀ a ∈ Gk, a ∉ fp3 i := fun a ha z => (List.nodup_append.mp nd2).2.2 a ha a (p3.mem_iff.mp z) rfl
  have kq : ∀ a ∈ Gk, a ≠ q := fun a ha z => (List.nodup_append.mp nd2).2.2 a ha q List.mem_cons_self z
  have sub3 : ∀ a ∈ fp3 i, a ∈ fp2 i := fun a ha => ap.perm.mem_iff.mpr (by
    rcases List.mem_cons.mp (p3.mem_iff.mp ha) with z | z
    · rw [z]; exact List.mem_cons_self
    · refine List.mem_cons_of_mem _ ?_
      rcases List.mem_append.mp z with z | z
      · exact List.mem_append_left _ (hP.mem_iff.mpr (List.mem_append_right _ z))
      · exact List.mem_append_right _ z)
  have slots : ∀ j r o, (setS i (.d (rb (.list (es.eraseIdx j)))) true s2).sl[j]? = some (some (r, o)) → True := fun _ _ _ _ => trivial
  have notIn : ∀ k y o, (s2.sl.set i (some (R.d (rb (.list (es.eraseIdx j))), true)))[k]? = some (some (y, o)) → ∀ a ∈ Gk, a ∉ fp3 k := fun k y o e a ha z => by
    rcases set_some e with ⟨rfl, _⟩ | ⟨ne, e⟩
    · exact k3 a ha z
    · rw [o3 k ne] at z
      exact r.rel.dj i k _ y o (Ne.symm ne) hs e a (kF a ha) z
  refine ⟨fp3, rel3, fun k r' o e => ?_, x3.keep, x3.trk, x3.tt, fun c hc => ?_, .cons (fun _ h => (nomatch h)) List.Pairwise.nil, fun z => by cases z⟩
  · rcases set_some e with ⟨rfl, rfl, rfl, _⟩ | ⟨ne, e⟩
    · obtain ⟨⟨y, e1⟩, s⟩ := r.sub k _ true hs
      exact ⟨⟨y, e1⟩, fun a ha => s a (sub3 a ha)⟩
    · obtain ⟨⟨y, e1⟩, s⟩ := r.sub k r' o e
      exact ⟨⟨y, e1⟩, fun a ha => s a (by rw [o3 k ne] at ha; exact ha)⟩
  · have : c = ⟨v, .d d', true, Gk⟩ := by simpa using hc
    subst this
    have tt : Tt H2 (upd H2 q (.lst (ys.eraseIdx j))) := ⟨fun a xs e => by rw [upd_ne (fun z => by subst z; rw [ap.lst] at e; cases e)]; exact e, fun a ob u e => by rw [upd_ne (fun z => by subst z; rw [ap.lst] at e; cases e)]; exact e⟩
    refine ⟨rv.move tt _ _ _ fun a ha o e => by rw [upd_ne (kq a ha)]; exact e, fun _ => ⟨(List.nodup_append.mp nd2).1, fun k r o e a ha => notIn k r o e a ha, fun a ha => r.ext.grow a (own a (kF a ha))⟩, fun k r' e _ a ha => notIn k r' true e a ha, fun a ha => .inr (.inr (r.ext.grow a (own a (kF a ha)))), fun a ha => r.rel.nb i _ _ hs a (kF a ha)⟩
end
def fPop (i : Nat) (pl : PF β) : EF β := fun st => bP (pl st) fun p s => bK (look i p s) fun es rb => match es[es.length - 1]? with
  | some d => some (.d d, true, setS i (.d (rb (.list (es.eraseIdx (es.length - 1))))) true s)
  | none => none
def fPopAt (i : Nat) (pl : PF β) (fk : EF β) : EF β := fun st => bP (pl st) fun p s1 => bE (fk s1) fun k _ s => bK (look i p s) fun es rb => match k with
  | .d (.int z) => gd (decide (-(2 ^ 63) ≤ z ∧ z < 2 ^ 63)) (match ixN es.length z with
    | some j => match es[j]? with
      | some d => some (.d d, true, setS i (.d (rb (.list (es.eraseIdx j)))) true s)
      | none => none
    | none => none)
  | _ => none
section
variable {X : Cx} {B : Bx β} {pos : Pos}
theorem dropLast_erase {α : Type} (l : List α) : l.dropLast = l.eraseIdx (l.length - 1) := by
  rw [List.eraseIdx_eq_take_drop_succ, List.dropLast_eq_take]
  cases l with
  | nil => rfl
  | cons a l => simp
theorem xPop {o : Expr} {i : Nat} {pl : PF β} {m0 : List Nat} {apos : Pos} (ho : VP X B o i pl m0)
    (hpe : ∀ {to : TE}, PE X o to → PE X (.Call (.Attribute o "pop" apos) [] [] pos) (tBM0 X.K "list" rPop to)) : VE X B (.Call (.Attribute o "pop" apos) [] [] pos) (fPop i pl) m0 true := by
  refine PE_con (hpe ho) ?_
  rintro σ H Q ⟨g, st, fp, rel, v, fr, st', e0, q⟩
  obtain ⟨p, s1, e1, e0⟩ := bP_inv e0
  obtain ⟨es, rb, e3, e0⟩ := bK_inv e0
  split at e0
  case h_2 => cases e0
  rename_i d e4
  cases e0
  refine ⟨g, st, fp, rel, p, s1, e1, fun fp1 H1 x d1 a es1 rb1 ys1 G1 C1 r1 l1 hx hs1 ap1 hp => ?_⟩
  rw [l1] at e3
  cases e3
  obtain ⟨w, Gk, G', h1, h2, h3, h4⟩ := RpA.erase ap1.rp e4
  have hl := ap1.rp.length
  refine ⟨tyL ap1.lst, a, ys1, w, rfl, rfl, ap1.lst, by rw [hl]; exact h1, ?_⟩
  have e5 : ys1.dropLast = ys1.eraseIdx (es.length - 1) := by rw [dropLast_erase, hl]
  rw [e5]
  obtain ⟨fp3, r3⟩ := Res.pop rel r1 hs1 hx ap1 h2 h3 h4
  exact q w Gk fp3 _ r3
theorem xPopAt {o k : Expr} {i : Nat} {pl : PF β} {fk : EF β} {m0 m1 : List Nat} {apos : Pos} (ho : VP X B o i pl m0) (hk : VE X B k fk m1 false) (na : starEach [k] X.env = (false, eval k X.env) :: starEach [] X.env := by rfl)
    (hpe : ∀ {to : TE} {ta : TA}, PE X o to → PA X [k] ta → PE X (.Call (.Attribute o "pop" apos) [k] [] pos) (tBM X.K "list" rPopAt to ta)) : VE X B (.Call (.Attribute o "pop" apos) [k] [] pos) (fPopAt i pl fk) (m0 ++ m1) true := by
  refine PE_con (hpe ho (pa_cons hk pa_nil na)) ?_
  rintro σ H Q ⟨g, st, fp, rel, v, fr, st', e0, q⟩
  obtain ⟨p, s1, e1, e0⟩ := bP_inv e0
  obtain ⟨kv, frk, s2, e2, e0⟩ := bE_inv e0
  obtain ⟨es, rb, e3, e0⟩ := bK_inv e0
  obtain ⟨z, rfl⟩ : ∃ z, kv = R.d (.int z) := by
    split at e0
    · exact ⟨_, rfl⟩
    · cases e0
  obtain ⟨hz, e0⟩ := gd_inv e0
  have hz := of_decide_eq_true hz
  split at e0
  case h_2 => cases e0
  rename_i j ej
  split at e0
  case h_2 => cases e0
  rename_i d e4
  cases e0
  refine ⟨g, st, fp, rel, p, s1, e1, fun fp1 H1 x d1 a es1 rb1 ys1 G1 C1 r1 l1 hx hs1 ap1 hp => ?_⟩
  refine ⟨tyL ap1.lst, g, s1, fp1, r1.rel, _, frk, s2, e2, fun y F fp2 H2 r2 => ?_⟩
  obtain ⟨rfl, rfl⟩ := rp_int r2.one
  obtain ⟨d2, ys2, G2, C2, hs2, ap2⟩ := place_arg l1 hx hs1 r1.rel ap1 hp r2 (fun hm => by cases hm) e3
  obtain ⟨w, Gk, G', h1, h2, h3, h4⟩ := RpA.erase ap2.rp e4
  have hl := ap2.rp.length
  obtain ⟨hq1, hq2, _⟩ := ixN_seq ej
  refine ⟨a, ys2, z, j, w, rfl, rfl, ap2.lst, hz.1, hz.2, by rw [hl]; exact hq1, h1, ?_⟩
  have r12 := Res.app rel r1 r2 fun _ c hc => (nomatch hc)
  obtain ⟨fp3, r3⟩ := Res.pop rel r12 hs2 hx ap2 h2 h3 h4
  exact q w Gk fp3 _ r3

/-! ### item = value -/
def fSetI (i : Nat) (m : List Nat) (pl : PF β) (fk fe : EF β) : SF β := fun st => bE (fe st) fun v fr s0 => bP (pl s0) fun p s1 => bE (fk s1) fun k _ s2 => bK (look i p s2) fun es rb => match k, v with
  | .d (.int z), .d d => match ixN es.length z with
    | some j => match fin1 i m fr (rb (.list (es.set j d))) s2 with
      | some s => some (.nx s)
      | none => none
    | none => none
  | _, _ => none
theorem setI_con {o k e : Expr} {i : Nat} {pl : PF β} {fk fe : EF β} {m0 m1 m : List Nat} {mu : Bool} (D : Ends) (σ : L2.St) (H : Hp) (q : tS X.K B (fSetI i m pl fk fe) D σ H) : tAsg (tE X.K B fe m mu) (gSub (tP X.K B i pl m0) (tE X.K B fk m1 false) rSetL) D σ H := by
  obtain ⟨g, st, fp, rel, out, e0, q⟩ := q
  obtain ⟨v, fr, s0, e1, e0⟩ := bE_inv e0
  obtain ⟨p, s1, e2, e0⟩ := bP_inv e0
  obtain ⟨kv, frk, s2, e3, e0⟩ := bE_inv e0
  obtain ⟨es, rb, e4, e0⟩ := bK_inv e0
  obtain ⟨z, d, rfl, rfl⟩ : ∃ z d, kv = R.d (.int z) ∧ v = R.d d := by
    split at e0
    · exact ⟨_, _, rfl, rfl⟩
    · cases e0
  have e0 : (match ixN es.length z with
    | some j => match fin1 i m fr (rb (.list (es.set j d))) s2 with
      | some s => some (Out.nx s)
      | none => none
    | none => none) = some out := e0
  split at e0
  case h_2 => cases e0
  rename_i j ej
  split at e0
  case h_2 => cases e0
  rename_i s3 e5
  cases e0
  refine ⟨g, st, fp, rel, .d d, fr, s0, e1, fun y F fp0 H0 r0 => ?_⟩
  refine ⟨g, s0, fp0, r0.rel, p, s1, e2, fun fp1 H1 x d1 a es1 rb1 ys1 G1 C1 r1 l1 hx hs1 ap1 hp => ?_⟩
  refine ⟨g, s1, fp1, r1.rel, _, frk, s2, e3, fun w Fk fp2 H2 r2 => ?_⟩
  obtain ⟨rfl, rfl⟩ := rp_int r2.one
  obtain ⟨d2, ys2, G2, C2, hs2, ap2⟩ := place_arg l1 hx hs1 r1.rel ap1 hp r2 (fun hm => by cases hm) e4
  have hl := ap2.rp.length
  have r01 := Res.app rel r0 r1 fun hm => by cases hm
  have r02 := Res.app rel r01 (r2.weak (cs' := []) (fun _ h => h) (fun h => h) (List.nil_sublist _)) fun hm => by cases hm
  have hcm : (⟨y, .d d, fr, F⟩ : Cm) ∈ ([⟨y, .d d, fr, F⟩] ++ [] ++ [] : List Cm) := by simp
  obtain ⟨_, hq2, _⟩ := ixN_seq ej
  obtain ⟨G', Z, h1, h2⟩ := RpA.setV (j := j) ap2.rp (r02.each _ hcm).rr hq2
  refine ⟨a, ys2, z, j, rfl, rfl, ap2.lst, by rw [hl]; exact ej, ?_⟩
  -- the names m alone are given up: the place and the index are pure
  have r02' : Res X.K B g m mu st fp σ H s2 fp2 H2 [⟨y, .d d, fr, F⟩] := by
    obtain ⟨p1, p2, p3⟩ := r1.pure rfl
    obtain ⟨p4, p5, p6⟩ := r2.pure rfl
    have c0 := r0.each _ List.mem_cons_self
    refine ⟨r02.rel, r02.sub, r02.keep, r02.trk, r02.tt, fun c hc => ?_, .cons (fun _ h => (nomatch h)) List.Pairwise.nil, fun hm => ?_⟩
    · have hc : c = ⟨y, .d d, fr, F⟩ := by simpa using hc
      subst hc
      have c2 := r02.each _ hcm
      exact ⟨c2.rr, c2.fr, fun k r' e' ni => by rw [p4, p1] at e'; rw [p5, p2]; exact c0.ali k r' e' ni, c2.src, c2.nb⟩
    · subst hm
      exact r02.pure rfl
  obtain ⟨fp3, rel3, x3⟩ := turn1 (E := F) (c := ⟨y, .d d, fr, F⟩) rel r02' List.mem_cons_self hs2 hx ap2 h1 h2 (List.Sublist.refl _) e5
  exact q σ fp3 _ rel3 x3
theorem sSetI {o k e : Expr} {i : Nat} {pl : PF β} {fk fe : EF β} {m0 m1 m : List Nat} {mu : Bool} {tpos : Pos} (ho : VP X B o i pl m0) (hk : VE X B k fk m1 false) (he : VE X B e fe m mu) (hs : swapsWithSole [.Subscript o k tpos] e pos.line X.env = pure false := by rfl) (hw : swappedStores [.Subscript o k tpos] e X.env = pure none := by rfl)
    (h1 : (assignEach [.Subscript o k tpos] X.env).map (·.2) = [assign (.Subscript o k tpos) X.env] := by rfl)
    (ha : ∀ v, assign (.Subscript o k tpos) X.env v = (do
      let ov ← holding [v] (eval o X.env)
      let iv ← holding [v, ov] (eval k X.env)
      standAt tpos
      holding [v, ov, iv] (setItem ov iv v)
      release [v, ov, iv] []) := by intro _; rfl) : VS X B (.Assign [.Subscript o k tpos] e pos) (fSetI i m pl fk fe) :=
  PS_con (ps_asg he (pg_sub ho hk set_list ha) hs hw h1) fun D σ H q => setI_con (o := o) (k := k) (e := e) D σ H q

/-! ### several names at once -/
def setAll : List Nat → List (R × Bool) → S β → S β
  | i :: is, (v, fr) :: vs, s => setAll is vs (setS i v fr s)
  | _, _, s => s
def sgAll : List Nat → List V → L2.St → L2.St
  | i :: is, v :: vs, σ => sgAll is vs (σ.set i (some v))
  | _, _, σ => σ
theorem bd_frz {g : Gh} {st : S β} {fp : Nat → List Addr} {fr : Bool} {F : List Addr} {m : List Nat} (b : Bd g st fp fr F) : Bd g (frzS m st) fp fr F :=
  ⟨fun f => let ⟨h1, h2, h3⟩ := b.fr f; ⟨h1, h2, fun j r o e => let ⟨o', e', _⟩ := frz_some e; h3 j r o' e'⟩, fun a ha z => b.al a ha (own_frz z).1, b.nb, b.ar⟩
theorem parBind {K : PySem.W.Frag} {g : Gh} : ∀ {is : List Nat} {cs : List Cm} {s : S β} {fp : Nat → List Addr} {σ : L2.St} {H : Hp}, is.length = cs.length → Rel K B g s fp σ H → (∀ c ∈ cs, Bd g s fp c.fr c.F ∧ RR K g.pb H c.x c.v c.F) → cs.Pairwise CDj →
    ∃ fp', Rel K B g (setAll is (cs.map fun c => (c.v, c.fr)) s) fp' (sgAll is (cs.map (·.x)) σ) H ∧ ∀ a, Own (setAll is (cs.map fun c => (c.v, c.fr)) s) fp' a → Own s fp a ∨ ∃ c ∈ cs, c.fr = true ∧ a ∈ c.F
  | [], [], s, fp, σ, H, _, rel, _, _ => ⟨fp, rel, fun a o => .inl o⟩
  | [], _ :: _, _, _, _, _, h, _, _, _ => by cases h
  | _ :: _, [], _, _, _, _, h, _, _, _ => by cases h
  | i :: is, c :: cs, s, fp, σ, H, hl, rel, hb, pw => by
    obtain ⟨b, rr⟩ := hb c List.mem_cons_self
    cases pw with
    | cons p1 p2 =>
      have rel1 := rel.bind (i := i) (o := c.fr) rr (fun f => let ⟨h1, h2, h3⟩ := b.fr f; ⟨h1, h2, fun j r o _ => h3 j r o⟩) (fun j r _ e a ha z => b.al a ha ⟨j, r, e, z⟩) b.nb b.ar
      have hb' : ∀ c' ∈ cs, Bd g (setS i c.v c.fr s) (fun j => if j = i then c.F else fp j) c'.fr c'.F ∧ RR K g.pb H c'.x c'.v c'.F := fun c' hc' => by
        obtain ⟨b', rr'⟩ := hb c' (List.mem_cons_of_mem _ hc')
        refine ⟨⟨fun f => ?_, fun a ha z => ?_, b'.nb, b'.ar⟩, rr'⟩
        · obtain ⟨h1, h2, h3⟩ := b'.fr f
          refine ⟨h1, h2, fun j r o e a ha z => ?_⟩
          have z' : a ∈ (if j = i then c.F else fp j) := z
          rcases set_some e with ⟨rfl, _⟩ | ⟨ne, e⟩
          · rw [if_pos rfl] at z'
            exact p1 c' hc' (.inr f) a z' ha
          · rw [if_neg ne] at z'
            exact h3 j r o e a ha z'
        · rcases own_set z with ⟨f, z⟩ | z
          · exact p1 c' hc' (.inl f) a z ha
          · exact b'.al a ha z
      obtain ⟨fp', r2, o2⟩ := parBind (is := is) (cs := cs) (by simpa using hl) rel1 hb' p2
      refine ⟨fp', r2, fun a o => ?_⟩
      rcases o2 a o with z | ⟨c', hc', z⟩
      · rcases own_set z with ⟨f, z⟩ | z
        · exact .inr ⟨c, List.mem_cons_self, f, z⟩
        · exact .inl z
      · exact .inr ⟨c', List.mem_cons_of_mem _ hc', z⟩
def fPar (is m : List Nat) (fa : AF β) : SF β := fun st => bA (fa st) fun vs s => gd (decide (is.length = vs.length)) (some (.nx (setAll is vs (if vs.all (·.2) then s else frzS m s))))
theorem par_con {is m : List Nat} {mu : Bool} {fa : AF β} (D : Ends) (σ : L2.St) (H : Hp) (q : tS X.K B (fPar is m fa) D σ H) : tA X.K B fa m mu σ H fun vs H1 => is.length = vs.length ∧ D.nx (sgAll is vs σ) H1 := by
  obtain ⟨g, st, fp, rel, out, e0, q⟩ := q
  obtain ⟨vs, s, e1, e0⟩ := bA_inv e0
  obtain ⟨hl, e0⟩ := gd_inv e0
  have hl := of_decide_eq_true hl
  cases e0
  refine ⟨g, st, fp, rel, vs, s, e1, fun cs fp1 H1 r1 hc => ?_⟩
  have hl' : is.length = cs.length := by rw [hl, ← hc, List.length_map]
  refine ⟨by rw [List.length_map]; exact hl', ?_⟩
  have hb : ∀ c ∈ cs, Bd g (if vs.all (·.2) then s else frzS m s) fp1 c.fr c.F ∧ RR X.K g.pb H1 c.x c.v c.F := fun c hc' => by
    have b := r1.bd rel hc'
    refine ⟨?_, (r1.each c hc').rr⟩
    cases hv : vs.all (·.2) with
    | true =>
      have : c.fr = true := by
        rw [← hc, List.all_map] at hv
        exact List.all_eq_true.mp hv c hc'
      rw [this] at b ⊢
      exact b
    | false =>
      show Bd g (frzS m s) fp1 c.fr c.F
      cases hf : c.fr with
      | true => rw [hf] at b; exact bd_frz b
      | false => rw [hf] at b; exact b
  have relp : Rel X.K B g (if vs.all (·.2) then s else frzS m s) fp1 σ H1 := r1.rel.pre
  obtain ⟨fp2, rel2, o2⟩ := parBind hl' relp hb r1.pw
  rw [hc] at rel2 o2
  refine q _ fp2 H1 rel2 ⟨r1.keep, fun a o => ?_, r1.trk, r1.tt⟩
  rcases o2 a o with z | ⟨c, hc', f, z⟩
  · exact .inl (r1.own (own_pre z))
  · exact ((r1.each c hc').fr f).2.2 a z
theorem sPar2 {i j : Nat} {x y : Str} {a b : Expr} {px py pt : Pos} {kt k2 : Nat} {pt2 : Pos} {fa : AF β} {m : List Nat} {mu : Bool} (ha : VA X B [a, b] fa m mu)
    (hp : ∀ {ta : TA}, PA X [a, b] ta → PS X (.Assign [.Tuple [.Name x px, .Name y py] kt pt] (.Tuple [a, b] k2 pt2) pos) (tPar i j ta)) : VS X B (.Assign [.Tuple [.Name x px, .Name y py] kt pt] (.Tuple [a, b] k2 pt2) pos) (fPar [i, j] m fa) := by
  refine PS_con (hp ha) fun D σ H q => ?_
  obtain ⟨g, st, fp, rel, vs, s, e1, k⟩ := par_con (mu := mu) D σ H q
  refine ⟨g, st, fp, rel, vs, s, e1, fun cs fp1 H1 r1 hc => ?_⟩
  obtain ⟨h1, h2⟩ := k cs fp1 H1 r1 hc
  generalize cs.map (fun c => c.x) = xs at h1 h2 ⊢
  match xs, h1, h2 with
  | [v, w], _, h2 => exact ⟨v, w, rfl, h2⟩
theorem sPar3 {i j l : Nat} {x y z : Str} {a b c : Expr} {px py pz pt : Pos} {kt k2 : Nat} {pt2 : Pos} {fa : AF β} {m : List Nat} {mu : Bool} (ha : VA X B [a, b, c] fa m mu)
    (hp : ∀ {ta : TA}, PA X [a, b, c] ta → PS X (.Assign [.Tuple [.Name x px, .Name y py, .Name z pz] kt pt] (.Tuple [a, b, c] k2 pt2) pos) (tPar3 i j l ta)) : VS X B (.Assign [.Tuple [.Name x px, .Name y py, .Name z pz] kt pt] (.Tuple [a, b, c] k2 pt2) pos) (fPar [i, j, l] m fa) := by
  refine PS_con (hp ha) fun D σ H q => ?_
  obtain ⟨g, st, fp, rel, vs, s, e1, k⟩ := par_con (mu := mu) D σ H q
  refine ⟨g, st, fp, rel, vs, s, e1, fun cs fp1 H1 r1 hc => ?_⟩
  obtain ⟨h1, h2⟩ := k cs fp1 H1 r1 hc
  generalize cs.map (fun c => c.x) = xs at h1 h2 ⊢
  match xs, h1, h2 with
  | [u, v, w], _, h2 => exact ⟨u, v, w, rfl, h2⟩

/-! ### name op= value -/
theorem sAug {i : Nat} {x : Str} {e : Expr} {op : Operator} {r : R2} {p : PyData → PyData → Option PyData} {nt : Bool} {pos' : Pos} {fe : EF β} {m : List Nat} (hp : Prim2 X.K r p nt) (ho : OpR X (inplaceOp op) r) (hN : X.N.Nodup) (hi : X.N[i]? = some x) (hx : Loc X.env.scope x) (he : VE X B e fe m false)
    (hf : X.fn x = true ∨ X.env.scope.names.lookup x = some .local := by first | exact .inl rfl | exact .inr rfl | assumption) : VS X B (.AugAssign (.Name x pos') op e pos) (fAsg (i :: m) (.nm i) (f2 p nt false (fVar i) fe)) := by
  refine PS_con (ps_aug hN hi hx he ho hf) ?_
  intro D σ H q
  have q' := asg_con (e := .Name x pos') (X := X) (B := B) (m := i :: m) (mu := false) D σ H q
  obtain ⟨g, st, fp, rel, v, fr, st', e0, k⟩ := q'
  have e1 := e0
  obtain ⟨v1, fr1, s1, e1, e2⟩ := bE_inv e1
  unfold fVar at e1
  split at e1
  case h_2 => cases e1
  rename_i r0 o0 e3
  cases e1
  obtain ⟨y, e4, rr⟩ := rel.val i _ _ e3
  have tv : tE X.K B (fVar (β := β) i) [i] false σ H fun x H1 => tE X.K B fe m false σ H1 fun y H2 => r x y H2 fun z H3 => gP X.K (.nm i) z σ H3 D.nx :=
    two_con (X := X) (B := B) (m1 := [i]) (m2 := m) (mu1 := false) (mu2 := false) hp σ H _ ⟨g, st, fp, rel, v, fr, st', e0, k⟩
  obtain ⟨g', st2, fp2, rel2, v2, fr2, s2, e5, k2⟩ := tv
  unfold fVar at e5
  split at e5
  case h_2 => cases e5
  rename_i r3 o3 e6
  cases e5
  obtain ⟨y', e7, rr'⟩ := rel2.val i _ _ e6
  refine ⟨y', e7, k2 y' (fp2 i) fp2 H ?_⟩
  refine ⟨rel2, fun j r o e => ⟨⟨r, e⟩, fun _ ha => ha⟩, fun _ _ e _ _ _ => e, fun _ e => e, .refl H, fun c hc => ?_, .cons (fun _ h => (nomatch h)) List.Pairwise.nil, fun _ => ⟨rfl, rfl, fun _ _ e _ _ => e⟩⟩
  have : c = ⟨y', v2, imR v2, fp2 i⟩ := by simpa using hc
  subst this
  refine ⟨rr', fun f => ?_, fun j r' e' ni a ha z => ?_, fun a ha => (.inl ⟨i, v2, o3, e6, ha⟩), fun a ha => rel2.nb i v2 o3 e6 a ha⟩
  · have z : fp2 i = [] := rr'.im f
    show (fp2 i).Nodup ∧ (∀ j r o, st2.sl[j]? = some (some (r, o)) → ∀ a ∈ fp2 i, a ∉ fp2 j) ∧ ∀ a ∈ fp2 i, Own st2 fp2 a ∨ H a = none
    rw [z]
    exact ⟨List.nodup_nil, fun _ _ _ _ a ha => (nomatch ha), fun a ha => (nomatch ha)⟩
  · exact rel2.dj j i r' v2 o3 (by simpa using ni) e' e6 a z ha
end
end Vv

set_option Elab.async false
set_option linter.all false
set_option maxRecDepth 100000
set_option autoImplicit false
set_option maxHeartbeats 4000000
/-! Vv, part 11: operators, subscripts, built-in functions. -/
namespace Vv
open PySem PySem.Spec PyProof.Rows L2
variable {β : Type}
section
variable {K : PySem.W.Frag} {H : Hp}
theorem New.at {z : V} {d : PyData} {src : List Addr} {nt : Bool} (h : Rp K H z d []) : New K H H z d [] src nt := ⟨.refl _, h, fun a ha => (nomatch ha), fun _ => ⟨List.nodup_nil, fun a ha => (nomatch ha)⟩⟩
/-- a part of what was there -/
theorem New.part {z : V} {d : PyData} {F src : List Addr} (h : Rp K H z d F) (hs : ∀ a ∈ F, a ∈ src) : New K H H z d F src false := ⟨.refl _, h, fun a ha => .inl (hs a ha), fun f => by
  have e : F = [] := Rp.im _ _ _ h f
  rw [e]; exact ⟨List.nodup_nil, fun a ha => (nomatch ha)⟩⟩
theorem New.list {p : Addr} {xs : List V} {ds : List PyData} {F src : List Addr} (hp : H p = none) (h : RpA K H xs ds F) (hs : ∀ a ∈ F, a ∈ src) : New K H (upd H p (.lst xs)) (.ref p) (.list ds) (p :: F) src true :=
  ⟨same_upd hp, .lst upd_same (h.move (.same (same_upd hp)) _ _ _ fun a _ o e => same_upd hp a o e), fun a ha => by
    rcases List.mem_cons.mp ha with z | z
    · rw [z]; exact .inr hp
    · exact .inl (hs a z), fun f => by
    have e : F = [] := RpA.im _ _ _ h f
    rw [e]
    exact ⟨List.nodup_cons.mpr ⟨(by simp), List.nodup_nil⟩, fun a ha => by rw [List.mem_singleton.mp ha]; exact hp⟩⟩
theorem New.tup {p : Addr} {xs : List V} {ds : List PyData} {F src : List Addr} {nt : Bool} (hp : H p = none) (h : RpA K H xs ds F) (hs : ∀ a ∈ F, a ∈ src) : New K H (upd H p (.tup xs)) (.ref p) (.tuple ds) F src nt :=
  ⟨same_upd hp, .tup (.of upd_same) (h.move (.same (same_upd hp)) _ _ _ fun a _ o e => same_upd hp a o e), fun a ha => .inl (hs a ha), fun f => by
    have f' : imA ds = true := by cases nt <;> exact f
    have e : F = [] := RpA.im _ _ _ h f'
    rw [e]; exact ⟨List.nodup_nil, fun a ha => (nomatch ha)⟩⟩
end
/-! ### + - * // % ** -/
def pAdd (a b : PyData) : Option PyData := match a, b with
  | .int i, .int j => some (.int (i + j))
  | .str x, .str y => gd (decide (x.length + y.length ≤ sizeLine)) (some (.str (x ++ y)))
  | .list xs, .list ys => gd (decide (xs.length + ys.length ≤ sizeLine)) (some (.list (xs ++ ys)))
  | .tuple xs, .tuple ys => gd (decide (xs.length + ys.length ≤ sizeLine)) (some (.tuple (xs ++ ys)))
  | _, _ => none
def rAddS : R2 := fun x y H Q => ∃ i j, x = .str i ∧ y = .str j ∧ i.length + j.length ≤ sizeLine ∧ Q (.str (i ++ j)) H
def rAdd (K : PySem.W.Frag) : R2 := fun x y H Q => ((rI0 (fun i j => .int (i + j)) x y H Q ∨ rAddS x y H Q) ∨ rCat x y H Q) ∨ rCatA K x y H Q
theorem op_addD {X : Cx} : OpR X (binaryOp .Add) (rAdd X.K) := ((op_add.or op_add_str).or op_cat).or op_catA
theorem ok_add {K : PySem.W.Frag} : Prim2 K (rAdd K) pAdd true := by
  intro H x y a b F G d Q ha hb e q
  unfold pAdd at e
  split at e
  · cases e
    obtain ⟨rfl, rfl⟩ := rp_int ha
    obtain ⟨rfl, rfl⟩ := rp_int hb
    exact .inl (.inl (.inl ⟨_, _, rfl, rfl, q _ H [] (.at (.int _))⟩))
  · obtain ⟨hz, e⟩ := gd_inv e
    cases e
    obtain ⟨rfl, rfl⟩ := rp_str ha
    obtain ⟨rfl, rfl⟩ := rp_str hb
    exact .inl (.inl (.inr ⟨_, _, rfl, rfl, of_decide_eq_true hz, q _ H [] (.at (.str _))⟩))
  · obtain ⟨hz, e⟩ := gd_inv e
    cases e
    have hz := of_decide_eq_true hz
    cases ha with
    | lst h1 h2 =>
      cases hb with
      | lst h3 h4 =>
        refine .inl (.inr ⟨_, _, _, _, rfl, rfl, h1, h3, by rw [h2.length, h4.length]; exact hz, fun p hp => q _ _ _ (.list hp (h2.append h4) fun a ha => ?_)⟩)
        rcases List.mem_append.mp ha with z | z
        · exact List.mem_append_left _ (List.mem_cons_of_mem _ z)
        · exact List.mem_append_right _ (List.mem_cons_of_mem _ z)
  · obtain ⟨hz, e⟩ := gd_inv e
    cases e
    have hz := of_decide_eq_true hz
    cases ha with
    | @tup a1 vs1 ds1 F1 h1 h2 =>
      cases hb with
      | @tup a2 vs2 ds2 F2 h3 h4 =>
        refine .inr ⟨_, _, _, _, rfl, rfl, h1, h3, by rw [h2.length, h4.length]; exact hz, fun e => ?_, fun n e => ?_, fun n m p hp => ?_⟩
        · subst e
          cases h2
          refine q _ H G ⟨.refl _, .tup h3 h4, fun a ha => .inl (List.mem_append_right _ ha), fun f => ?_⟩
          have e : G = [] := RpA.im _ _ _ h4 f
          rw [e]; exact ⟨List.nodup_nil, fun a ha => (nomatch ha)⟩
        · subst e
          cases h4
          refine q _ H F ⟨.refl _, .tup h1 (by rw [List.append_nil]; exact h2), fun a ha => .inl (List.mem_append_left _ ha), fun f => ?_⟩
          rw [List.append_nil] at f
          have e : F = [] := RpA.im _ _ _ h2 f
          rw [e]; exact ⟨List.nodup_nil, fun a ha => (nomatch ha)⟩
        · exact q _ _ _ (.tup hp (h2.append h4) fun a ha => ha)
  · cases e
def pI (c : Int → Int → Bool) (f : Int → Int → PyData) (a b : PyData) : Option PyData := match a, b with
  | .int i, .int j => gd (c i j) (some (f i j))
  | _, _ => none
/-- operators of two ints -/
theorem ok_I {K : PySem.W.Frag} {nt : Bool} {c : Int → Int → Bool} {f : Int → Int → PyData} {C : Int → Int → Prop} {h : Int → Int → V} (hc : ∀ i j, c i j = true → C i j) (hf : ∀ H i j, Rp K H (h i j) (f i j) []) : Prim2 K (rI C h) (pI c f) nt := by
  intro H x y a b F G d Q ha hb e q
  unfold pI at e
  split at e
  · obtain ⟨hz, e⟩ := gd_inv e
    cases e
    obtain ⟨rfl, rfl⟩ := rp_int ha
    obtain ⟨rfl, rfl⟩ := rp_int hb
    exact ⟨_, _, rfl, rfl, hc _ _ hz, q _ H [] (.at (hf H _ _))⟩
  · cases e
theorem ok_I0 {K : PySem.W.Frag} {nt : Bool} {f : Int → Int → PyData} {h : Int → Int → V} (hf : ∀ H i j, Rp K H (h i j) (f i j) []) : Prim2 K (rI0 h) (pI (fun _ _ => true) f) nt := by
  intro H x y a b F G d Q ha hb e q
  unfold pI at e
  split at e
  · obtain ⟨hz, e⟩ := gd_inv e
    cases e
    obtain ⟨rfl, rfl⟩ := rp_int ha
    obtain ⟨rfl, rfl⟩ := rp_int hb
    exact ⟨_, _, rfl, rfl, q _ H [] (.at (hf H _ _))⟩
  · cases e
def pSub := pI (fun _ _ => true) fun i j => .int (i - j)
def pDiv := pI (fun _ j => decide (0 < j) && decide (j.natAbs.log2 < 9000)) fun i j => .int (i / j)
def pMod := pI (fun _ j => decide (0 < j)) fun i j => .int (i % j)
def pPow := pI (fun i j => decide (0 ≤ j) && (decide (j ≤ 1000000) && decide (i.natAbs < 2 ^ 64))) fun i j => .int (i ^ j.toNat)
def pShl := pI (fun i j => decide (0 ≤ j) && (decide (j ≤ 1000000) && decide (i.natAbs < 2 ^ 64))) fun i j => .int (i * 2 ^ j.toNat)
theorem ok_sub {K : PySem.W.Frag} : Prim2 K (rI0 fun i j => .int (i - j)) pSub false := ok_I0 fun H i j => .int _
theorem ok_div {K : PySem.W.Frag} : Prim2 K (rI CDivW fun i j => .int (i / j)) pDiv false := ok_I (fun i j h => by
  rw [Bool.and_eq_true] at h
  exact ⟨of_decide_eq_true h.1, of_decide_eq_true h.2⟩) fun H i j => .int _
theorem ok_mod {K : PySem.W.Frag} : Prim2 K (rI (fun _ j => 0 < j) fun i j => .int (i % j)) pMod false := ok_I (fun i j h => of_decide_eq_true h) fun H i j => .int _
theorem ok_pow {K : PySem.W.Frag} : Prim2 K (rI CPow fun i j => .int (i ^ j.toNat)) pPow false := ok_I (fun i j h => by
  rw [Bool.and_eq_true, Bool.and_eq_true] at h
  exact ⟨of_decide_eq_true h.1, of_decide_eq_true h.2.1, of_decide_eq_true h.2.2⟩) fun H i j => .int _
theorem ok_shl {K : PySem.W.Frag} : Prim2 K (rI CPow fun i j => .int (i * 2 ^ j.toNat)) pShl false := ok_I (fun i j h => by
  rw [Bool.and_eq_true, Bool.and_eq_true] at h
  exact ⟨of_decide_eq_true h.1, of_decide_eq_true h.2.1, of_decide_eq_true h.2.2⟩) fun H i j => .int _
def mulB (i j : Int) : Bool := decide (i.natAbs < 2 ^ 64) || (decide (j.natAbs < 2 ^ 64) || decide (i.natAbs.log2 + j.natAbs.log2 < 1000000))
theorem mulB_ok {i j : Int} (h : mulB i j = true) : IntMulOk i j := by
  unfold mulB at h
  rw [Bool.or_eq_true, Bool.or_eq_true] at h
  have lo : ∀ k : Int, k.natAbs < 2 ^ 64 → -(2 ^ 64) < k ∧ k < 2 ^ 64 := fun k hk => by omega
  rcases h with h | h | h
  · have := lo i (of_decide_eq_true h)
    exact .of_left (intBits_le_64 this.1 this.2)
  · have := lo j (of_decide_eq_true h)
    exact .of_right (intBits_le_64 this.1 this.2)
  · exact CMulW.ok (show i.natAbs.log2 + j.natAbs.log2 < 1000000 from of_decide_eq_true h)
def rMulI : R2 := rI IntMulOk fun i j => .int (i * j)
theorem op_mulI {X : Cx} : OpR X (binaryOp .Mult) rMulI := opI fun _ _ _ _ _ _ _ hc q => mul_int q hc
theorem iop_mulI {X : Cx} : OpR X (inplaceOp .Mult) rMulI := opI fun _ _ _ _ _ _ _ hc q => imul_int q hc
def pMulI := pI mulB fun i j => .int (i * j)
theorem ok_mulI {K : PySem.W.Frag} : Prim2 K rMulI pMulI false := ok_I (fun i j h => mulB_ok h) fun H i j => .int _
def rpl {α : Type} (n : Nat) (xs : List α) : List α := (List.replicate n xs).flatten
def pMul (a b : PyData) : Option PyData := match a, b with
  | .int i, .int j => gd (mulB i j) (some (.int (i * j)))
  | .list xs, .int k => gd (imA xs && (decide (-(2 ^ 63) ≤ k ∧ k < 2 ^ 63) && decide (xs.length * k.toNat ≤ sizeLine))) (some (.list (rpl k.toNat xs)))
  | .tuple xs, .int k => gd (imA xs && (!xs.isEmpty && (decide (2 ≤ k ∧ k ≤ 1000) && decide (xs.length ≤ 1000)))) (some (.tuple (rpl k.toNat xs)))
  | _, _ => none
def rMul (K : PySem.W.Frag) : R2 := fun x y H Q => (rMulI x y H Q ∨ rRep x y H Q) ∨ rRepT K x y H Q
theorem op_mulD {X : Cx} : OpR X (binaryOp .Mult) (rMul X.K) := (op_mulI.or op_rep).or op_repT
theorem RpA.rpl {K : PySem.W.Frag} {H : Hp} {xs : List V} {ds : List PyData} (h : RpA K H xs ds []) : ∀ n : Nat, RpA K H (rpl n xs) (rpl n ds) []
  | 0 => .nil
  | n + 1 => by
    have := RpA.append h (RpA.rpl h n)
    exact this
theorem ok_mul {K : PySem.W.Frag} : Prim2 K (rMul K) pMul true := by
  intro H x y a b F G d Q ha hb e q
  unfold pMul at e
  split at e
  · obtain ⟨hz, e⟩ := gd_inv e
    cases e
    obtain ⟨rfl, rfl⟩ := rp_int ha
    obtain ⟨rfl, rfl⟩ := rp_int hb
    exact .inl (.inl ⟨_, _, rfl, rfl, mulB_ok hz, q _ H [] (.at (.int _))⟩)
  · obtain ⟨hz, e⟩ := gd_inv e
    cases e
    rw [Bool.and_eq_true, Bool.and_eq_true] at hz
    have h2 := of_decide_eq_true hz.2.1
    have h3 := of_decide_eq_true hz.2.2
    obtain ⟨rfl, rfl⟩ := rp_int hb
    cases ha with
    | @lst a vs ds F h4 h5 =>
      have e : F = [] := RpA.im _ _ _ h5 hz.1
      subst e
      exact .inl (.inr ⟨_, _, _, rfl, rfl, h4, h2.1, h2.2, by rw [h5.length]; exact h3, fun p hp => q _ _ _ (.list hp (h5.rpl _) fun a ha => (nomatch ha))⟩)
  · obtain ⟨hz, e⟩ := gd_inv e
    cases e
    rw [Bool.and_eq_true, Bool.and_eq_true, Bool.and_eq_true] at hz
    have h2 := of_decide_eq_true hz.2.2.1
    have h3 := of_decide_eq_true hz.2.2.2
    obtain ⟨rfl, rfl⟩ := rp_int hb
    cases ha with
    | @tup a vs ds F h4 h5 =>
      have e : F = [] := RpA.im _ _ _ h5 hz.1
      subst e
      refine .inr ⟨_, _, _, rfl, rfl, h4, fun z => ?_, h2.1, h2.2, by rw [h5.length]; exact h3, fun p hp => q _ _ _ (.tup hp (h5.rpl _) fun a ha => (nomatch ha))⟩
      subst z
      cases h5
      cases hz.2.1
  · cases e
/-! ### -n -/
def pNeg : List PyData → Option PyData
  | [.int i] => some (.int (-i))
  | _ => none
/-- one operand -/
def Prim1 (K : PySem.W.Frag) (r : V → Hp → VK → Prop) (p : PyData → Option PyData) (nt : Bool) : Prop :=
  ∀ (H : Hp) (x : V) (a : PyData) (F : List Addr) (d : PyData) (Q : VK), Rp K H x a F → p a = some d → (∀ z H2 F2, New K H H2 z d F2 F nt → Q z H2) → r x H Q
def ap1 (p : PyData → Option PyData) (nt : Bool) (v : R) (s : S β) : Option (R × Bool × S β) := match v with
  | .d a => match p a with
    | some d => some (.d d, frOf nt d, s)
    | none => none
  | _ => none
def f1 (p : PyData → Option PyData) (nt : Bool) (f : EF β) : EF β := fun st => bE (f st) fun v _ s => ap1 p nt v s
section
variable {X : Cx} {B : Bx β} {pos : Pos}
theorem one_con {r : V → Hp → VK → Prop} {p : PyData → Option PyData} {nt mu : Bool} {f : EF β} {m : List Nat} (hp : Prim1 X.K r p nt) (σ : L2.St) (H : Hp) (Q : VK) (q : tE X.K B (f1 p nt f) m mu σ H Q) : tE X.K B f m mu σ H fun x H1 => r x H1 Q := by
  obtain ⟨g, st, fp, rel, v, fr, st', e, q⟩ := q
  obtain ⟨v1, fr1, s1, e1, e⟩ := bE_inv e
  obtain ⟨a, rfl⟩ : ∃ a, v1 = R.d a := by
    unfold ap1 at e
    split at e
    · exact ⟨_, rfl⟩
    · cases e
  · have e : (match p a with | some d => some (R.d d, frOf nt d, s1) | none => none) = some (v, fr, st') := e
    split at e
    · rename_i d e3
      cases e
      refine ⟨g, st, fp, rel, .d a, fr1, _, e1, fun x F fp1 H1 r1 => ?_⟩
      exact hp H1 x a F d Q r1.one e3 fun z H3 F2 n => q z F2 fp1 H3 (r1.new rel n fun b hb => ⟨⟨x, .d a, fr1, F⟩, List.mem_cons_self, hb⟩)
    · cases e
theorem xUn {op : UnaryOp} {a : Expr} {r : V → Hp → VK → Prop} {p : PyData → Option PyData} {nt mu : Bool} {f : EF β} {m : List Nat} (hp : Prim1 X.K r p nt) (ho : UnR X (unaryOp op) r) (ha : VE X B a f m mu) : VE X B (.UnaryOp op a pos) (f1 p nt f) m mu := PE_con (pe_un ho ha) fun σ H Q q => one_con hp σ H Q q
def pNg : PyData → Option PyData
  | .int i => some (.int (-i))
  | _ => none
theorem ok_neg {K : PySem.W.Frag} : Prim1 K (rU fun i => .int (-i)) pNg false := by
  intro H x a F d Q ha e q
  unfold pNg at e
  split at e
  · cases e
    obtain ⟨rfl, rfl⟩ := rp_int ha
    exact ⟨_, rfl, q _ H [] (.at (.int _))⟩
  · cases e
end
/-! ### comparisons -/
def pEq (a b : PyData) : Option PyData := gd (SeqAt.shaped a && SeqAt.shaped b) (some (.bool (PyData.eqv a b)))
def pNe (a b : PyData) : Option PyData := gd (SeqAt.shaped a && SeqAt.shaped b) (some (.bool (!PyData.eqv a b)))
theorem ok_eq {K : PySem.W.Frag} : Prim2 K (rEqD K) pEq false := by
  intro H x y a b F G d Q ha hb e q
  obtain ⟨hz, e⟩ := gd_inv e
  cases e
  rw [Bool.and_eq_true] at hz
  exact ⟨a, b, ha.dp, hb.dp, hz.1, hz.2, q _ H [] (.at (.bl _))⟩
theorem ok_ne {K : PySem.W.Frag} : Prim2 K (rNeD K) pNe false := by
  intro H x y a b F G d Q ha hb e q
  obtain ⟨hz, e⟩ := gd_inv e
  cases e
  rw [Bool.and_eq_true] at hz
  exact ⟨a, b, ha.dp, hb.dp, hz.1, hz.2, q _ H [] (.at (.bl _))⟩
def pLt := pI (fun _ _ => true) fun i j => .bool (decide (i < j))
def pLe := pI (fun _ _ => true) fun i j => .bool (decide (i ≤ j))
def pGt := pI (fun _ _ => true) fun i j => .bool (decide (j < i))
def pGe := pI (fun _ _ => true) fun i j => .bool (decide (j ≤ i))
theorem ok_lt {K : PySem.W.Frag} : Prim2 K (rI0 fun i j => .bl (decide (i < j))) pLt false := ok_I0 fun H i j => .bl _
theorem ok_le {K : PySem.W.Frag} : Prim2 K (rI0 fun i j => .bl (decide (i ≤ j))) pLe false := ok_I0 fun H i j => .bl _
theorem ok_gt {K : PySem.W.Frag} : Prim2 K (rI0 fun i j => .bl (decide (j < i))) pGt false := ok_I0 fun H i j => .bl _
theorem ok_ge {K : PySem.W.Frag} : Prim2 K (rI0 fun i j => .bl (decide (j ≤ i))) pGe false := ok_I0 fun H i j => .bl _
def isNon : PyData → Bool
  | .none => true
  | _ => false
def pIs (a b : PyData) : Option PyData := gd (isNon b) (some (.bool (isNon a)))
def pIsn (a b : PyData) : Option PyData := gd (isNon b) (some (.bool (!isNon a)))
theorem isNon_rp {K : PySem.W.Frag} {H : Hp} {x : V} {a : PyData} {F : List Addr} (h : Rp K H x a F) : decide (x = .non) = isNon a := by cases h <;> rfl
theorem ok_is {K : PySem.W.Frag} : Prim2 K (fun x y H Q => y = .non ∧ Q (.bl (decide (x = .non))) H) pIs false := by
  intro H x y a b F G d Q ha hb e q
  obtain ⟨hz, e⟩ := gd_inv e
  cases e
  refine ⟨?_, ?_⟩
  · have := isNon_rp hb
    rw [hz] at this
    exact of_decide_eq_true this
  · rw [isNon_rp ha]
    exact q _ H [] (.at (.bl _))
theorem ok_isn {K : PySem.W.Frag} : Prim2 K (fun x y H Q => y = .non ∧ Q (.bl (!decide (x = .non))) H) pIsn false := by
  intro H x y a b F G d Q ha hb e q
  obtain ⟨hz, e⟩ := gd_inv e
  cases e
  refine ⟨?_, ?_⟩
  · have := isNon_rp hb
    rw [hz] at this
    exact of_decide_eq_true this
  · rw [isNon_rp ha]
    exact q _ H [] (.at (.bl _))
/-! ### in, of lists of any data, of flat tuples -/
def flatD : PyData → Bool
  | .none => true
  | .bool _ => true
  | .int _ => true
  | .str _ => true
  | _ => false
theorem flat_rp {K : PySem.W.Frag} {H : Hp} {x : V} {a : PyData} {F : List Addr} (h : Rp K H x a F) (f : flatD a = true) : flatV x = true := by
  cases h <;> first | rfl | cases f
theorem flat_all {K : PySem.W.Frag} {H : Hp} : ∀ {ds : List PyData} {xs : List V} {F : List Addr}, RpA K H xs ds F → ds.all flatD = true → xs.all flatV = true
  | [], _, _, h, _ => by cases h; rfl
  | d :: ds, _, _, h, f => by
    cases h with
    | cons r s =>
      rw [List.all_cons, Bool.and_eq_true] at f
      rw [List.all_cons, Bool.and_eq_true]
      exact ⟨flat_rp r f.1, flat_all s f.2⟩
theorem eqV_rp {K : PySem.W.Frag} {H : Hp} {x y : V} {a b : PyData} {F G : List Addr} (h : Rp K H x a F) (h' : Rp K H y b G) (f : flatD a = true) (f' : flatD b = true) : eqV y x = PyData.eqv b a := by
  cases h <;> cases h' <;> first | rfl | cases f | cases f' | skip
  all_goals first
    | (rename_i b1 b2; cases b1 <;> cases b2 <;> rfl)
    | (rename_i b1 i; cases b1 <;> rfl)
    | (rename_i i b1; cases b1 <;> rfl)
    | skip
theorem inV_rp {K : PySem.W.Frag} {H : Hp} {x : V} {a : PyData} {F : List Addr} (h : Rp K H x a F) (f : flatD a = true) : ∀ {ds : List PyData} {xs : List V} {G : List Addr}, RpA K H xs ds G → ds.all flatD = true → inV x xs = ds.any fun z => PyData.eqv z a
  | [], _, _, r, _ => by cases r; rfl
  | d :: ds, _, _, r, fs => by
    cases r with
    | cons r s =>
      rw [List.all_cons, Bool.and_eq_true] at fs
      have ih := inV_rp h f s fs.2
      show (eqV _ x || inV x _) = _
      rw [List.any_cons, eqV_rp h r f fs.1, ih]
def pIn (neg : Bool) (a b : PyData) : Option PyData := match b with
  | .list ds => gd (SeqAt.shaped a && SeqAt.shaped (.list ds)) (some (.bool (if neg then !(ds.any fun z => PyData.eqv z a) else ds.any fun z => PyData.eqv z a)))
  | .tuple ds => gd (flatD a && ds.all flatD) (some (.bool (if neg then !(ds.any fun z => PyData.eqv z a) else ds.any fun z => PyData.eqv z a)))
  | _ => none
def rInB (K : PySem.W.Frag) : R2 := fun x y H Q => rInD K x y H Q ∨ rIn K false x y H Q
def rNotInB (K : PySem.W.Frag) : R2 := fun x y H Q => rNotInD K x y H Q ∨ rIn K true x y H Q
theorem op_inB {X : Cx} (hu : X.A.units + 65 < cLine) : OpR X (compareOp .In) (rInB X.K) := (op_inD hu).or op_in_seq
theorem op_notInB {X : Cx} (hu : X.A.units + 65 < cLine) : OpR X (compareOp .NotIn) (rNotInB X.K) := (op_notInD hu).or op_notIn_seq
theorem ok_in {K : PySem.W.Frag} : Prim2 K (rInB K) (pIn false) false := by
  intro H x y a b F G d Q ha hb e q
  unfold pIn at e
  split at e
  · obtain ⟨hz, e⟩ := gd_inv e
    cases e
    rw [Bool.and_eq_true] at hz
    exact .inl ⟨a, _, ha.dp, hb.dp, hz.1, hz.2, q _ H [] (.at (.bl _))⟩
  · obtain ⟨hz, e⟩ := gd_inv e
    cases e
    rw [Bool.and_eq_true] at hz
    cases hb with
    | tup h1 h2 =>
      refine .inr ⟨_, _, rfl, .inr h1, flat_rp ha hz.1, flat_all h2 hz.2, ?_⟩
      have e := inV_rp ha hz.1 h2 hz.2
      rw [if_neg Bool.false_ne_true, e]
      exact q _ H [] (.at (.bl _))
  · cases e
theorem ok_notIn {K : PySem.W.Frag} : Prim2 K (rNotInB K) (pIn true) false := by
  intro H x y a b F G d Q ha hb e q
  unfold pIn at e
  split at e
  · obtain ⟨hz, e⟩ := gd_inv e
    cases e
    rw [Bool.and_eq_true] at hz
    exact .inl ⟨a, _, ha.dp, hb.dp, hz.1, hz.2, q _ H [] (.at (.bl _))⟩
  · obtain ⟨hz, e⟩ := gd_inv e
    cases e
    rw [Bool.and_eq_true] at hz
    cases hb with
    | tup h1 h2 =>
      refine .inr ⟨_, _, rfl, .inr h1, flat_rp ha hz.1, flat_all h2 hz.2, ?_⟩
      have e := inV_rp ha hz.1 h2 hz.2
      rw [if_pos rfl, e]
      exact q _ H [] (.at (.bl _))
  · cases e
/-! ### two comparisons in a row -/
def fCh (p p' : PyData → PyData → Option PyData) (fa fb fc : EF β) : EF β := fun st => bE (fa st) fun v _ s => bE (fb s) fun w _ s2 => match v, w with
  | .d a, .d b => match p a b with
    | some (.bool k) => if k then bE (fc s2) fun u _ s3 => match u with
        | .d c => match p' b c with
          | some d => some (.d d, im d, s3)
          | none => none
        | .box => none
      else some (.d (.bool false), true, s2)
    | _ => none
  | _, _ => none
section
variable {X : Cx} {B : Bx β} {pos : Pos}
theorem chain_con {r r' : R2} {p p' : PyData → PyData → Option PyData} {fa fb fc : EF β} {m1 m2 m3 : List Nat} (hp : Prim2 X.K r p false) (hp' : Prim2 X.K r' p' false) (σ : L2.St) (H : Hp) (Q : VK) (q : tE X.K B (fCh p p' fa fb fc) (m1 ++ (m2 ++ m3)) false σ H Q) :
    tChain r r' (tE X.K B fa m1 false) (tE X.K B fb m2 false) (tE X.K B fc m3 false) σ H Q := by
  obtain ⟨g, st, fp, rel, v, fr, st', e, q⟩ := q
  obtain ⟨v1, fr1, s1, e1, e⟩ := bE_inv e
  obtain ⟨v2, fr2, s2, e2, e⟩ := bE_inv e
  split at e
  case h_2 => cases e
  rename_i a b e9
  split at e
  case h_2 => cases e
  rename_i k e3
  refine ⟨g, st, fp, rel, .d a, fr1, s1, e1, fun x F fp1 H1 r1 => ⟨g, s1, fp1, r1.rel, .d b, fr2, s2, e2, fun y G fp2 H2 r2 => ?_⟩⟩
  have r12 := Res.app rel r1 r2 fun hm => by cases hm
  have c1 := r12.each ⟨x, .d a, fr1, F⟩ (by simp)
  have c2 := r12.each ⟨y, .d b, fr2, G⟩ (by simp)
  refine hp H2 x y a b F G _ _ c1.rr c2.rr e3 fun z H3 F2 n => ?_
  obtain ⟨rfl, rfl⟩ := rp_bl n.rp
  refine ⟨k, rfl, ?_⟩
  have r3 : Res X.K B g (m1 ++ m2) false st fp σ H s2 fp2 H3 [⟨y, .d b, fr2, G⟩] := by
    refine ⟨r12.rel.same n.same, r12.sub, fun a o e n1 n2 n3 => n.same a o (r12.keep a o e n1 n2 n3), fun a z => r12.trk a (n.same.free z), r12.tt.trans (.same n.same), fun c hc => ?_, .cons (fun _ h => (nomatch h)) List.Pairwise.nil, fun h => ?_⟩
    · have hc : c = ⟨y, .d b, fr2, G⟩ := by simpa using hc
      subst hc
      exact ⟨c2.rr.move (.same n.same) fun a _ o e => n.same a o e, c2.fr, c2.ali, c2.src, c2.nb⟩
    · obtain ⟨p1, p2, p3⟩ := r12.pure rfl
      exact ⟨p1, p2, fun a o e n2 n3 => n.same a o (p3 a o e n2 n3)⟩
  cases k with
  | false =>
    rw [if_neg Bool.false_ne_true] at e ⊢
    cases e
    exact q _ [] fp2 H3 ((r3.weak (fun j hj => by
      rcases List.mem_append.mp hj with z | z
      · exact List.mem_append_left _ z
      · exact List.mem_append_right _ (List.mem_append_left _ z)) (fun h => h) (List.Sublist.refl _)).bl rel false)
  | true =>
    rw [if_pos rfl] at e ⊢
    obtain ⟨v3, fr3, s3, e4, e⟩ := bE_inv e
    obtain ⟨c, rfl⟩ : ∃ c, v3 = R.d c := by
      split at e
      · exact ⟨_, rfl⟩
      · cases e
    have e : (match p' b c with | some d => some (R.d d, im d, s3) | none => none) = some (v, fr, st') := e
    split at e
    case h_2 => cases e
    rename_i d e5
    cases e
    refine ⟨g, s2, fp2, r3.rel, .d c, fr3, _, e4, fun w F3 fp4 H4 r4 => ?_⟩
    have r34 := Res.app rel r3 r4 fun hm => by cases hm
    have d1 := r34.each ⟨y, .d b, fr2, G⟩ (by simp)
    have d2 := r34.each ⟨w, .d c, fr3, F3⟩ (by simp)
    refine hp' H4 y w b c G F3 d Q d1.rr d2.rr e5 fun z H5 F5 n5 => q z F5 fp4 H5 ?_
    have := (r34.weak (fun j hj => by rw [List.append_assoc] at hj; exact hj) (fun h => h) (List.Sublist.refl _)).new (nt := false) rel n5 fun a' ha => ?_
    · exact this
    · rcases List.mem_append.mp ha with z | z
      · exact ⟨⟨y, .d b, fr2, G⟩, by simp, z⟩
      · exact ⟨⟨w, .d c, fr3, F3⟩, by simp, z⟩
theorem xChain {op op' : CmpOp} {a b c : Expr} {r r' : R2} {p p' : PyData → PyData → Option PyData} {fa fb fc : EF β} {m1 m2 m3 : List Nat} (hp : Prim2 X.K r p false) (hp' : Prim2 X.K r' p' false) (ho : OpR X (compareOp op) r) (ho' : OpR X (compareOp op') r') (ha : VE X B a fa m1 false) (hb : VE X B b fb m2 false) (hc : VE X B c fc m3 false)
    (hm : lastMarks [op, op'] [b, c] = false := by with_unfolding_all rfl) : VE X B (.Compare a [op, op'] [b, c] pos) (fCh p p' fa fb fc) (m1 ++ (m2 ++ m3)) false := PE_con (pe_chain ho ho' ha hb hc hm) fun σ H Q q => chain_con hp hp' σ H Q q
theorem tChn {op op' : CmpOp} {a b c : Expr} {r r' : R2} {p p' : PyData → PyData → Option PyData} {fa fb fc : EF β} {m1 m2 m3 : List Nat} (hp : Prim2 X.K r p false) (hp' : Prim2 X.K r' p' false) (ho : OpR X (compareOp op) r) (ho' : OpR X (compareOp op') r') (ha : VE X B a fa m1 false) (hb : VE X B b fb m2 false) (hc : VE X B c fc m3 false)
    (hm : lastMarks [op, op'] [b, c] = false := by with_unfolding_all rfl) : VT X B (.Compare a [op, op'] [b, c] pos) (fB (fCh p p' fa fb fc)) (m1 ++ (m2 ++ m3)) false := PT_con (pt_chain ho ho' ha hb hc hm) fun σ H Q q => chain_con hp hp' σ H _ (test_con σ H Q q)
end
end Vv

set_option Elab.async false
set_option linter.all false
set_option maxRecDepth 100000
set_option autoImplicit false
set_option maxHeartbeats 4000000
/-! Vv, part 12: subscripts, slices, displays, built-in functions. -/
namespace Vv
open PySem PySem.Spec PyProof.Rows L2
variable {β : Type}
/-! ### x[i] -/
def pIdx (a b : PyData) : Option PyData := match b with
  | .int i => (match a with
    | .list ds => atI ds i
    | .tuple ds => atI ds i
    | .str s => gd (decide (s.length ≤ sizeLine)) ((atI s.cps.toList i).map fun c => .str ⟨#[c]⟩)
    | _ => none)
  | _ => none
theorem RpA.atI {K : PySem.W.Frag} {H : Hp} {ds : List PyData} {vs : List V} {F : List Addr} {i : Int} {d : PyData} (h : RpA K H vs ds F) (e : L2.atI ds i = some d) : ∃ v G, L2.atI vs i = some v ∧ Rp K H v d G ∧ G.Sublist F := by
  unfold L2.atI at e ⊢
  rw [h.length]
  cases q : ixN ds.length i with
  | none => rw [q] at e; cases e
  | some j =>
    rw [q] at e
    obtain ⟨v, G, h1, h2, h3⟩ := RpA.getSub h (k := j) (d := d) e
    exact ⟨v, G, h1, h2, h3⟩
theorem ok_idx {K : PySem.W.Frag} : Prim2 K (rIx K) pIdx false := by
  intro H x y a b F G d Q ha hb e q
  unfold pIdx at e
  split at e
  case h_2 => cases e
  obtain ⟨rfl, rfl⟩ := rp_int hb
  split at e
  · cases ha with
    | lst h1 h2 =>
      obtain ⟨v, G, h3, h4, h5⟩ := RpA.atI h2 e
      exact .inl ⟨_, _, _, v, rfl, rfl, .of h1, h3, q v H G (.part h4 fun a ha => List.mem_append_left _ (List.mem_cons_of_mem _ (h5.subset ha)))⟩
  · cases ha with
    | tup h1 h2 =>
      obtain ⟨v, G, h3, h4, h5⟩ := RpA.atI h2 e
      exact .inr (.inl ⟨_, _, _, v, rfl, rfl, h1, h3, q v H G (.part h4 fun a ha => List.mem_append_left _ (h5.subset ha))⟩)
  · obtain ⟨hz, e⟩ := gd_inv e
    obtain ⟨rfl, rfl⟩ := rp_str ha
    obtain ⟨c, q1, e⟩ := Option.map_eq_some_iff.mp e
    cases e
    exact .inr (.inr ⟨_, _, c, rfl, rfl, of_decide_eq_true hz, q1, q _ H [] (.at (.str _))⟩)
  · cases e
section
variable {X : Cx} {B : Bx β} {pos : Pos}
theorem xIdx {a b : Expr} {mu1 mu2 : Bool} {f h : EF β} {m1 m2 : List Nat} (ha : VE X B a f m1 mu1) (hb : VE X B b h m2 mu2) (hs : PlainIx b) : VE X B (.Subscript a b pos) (f2 pIdx false mu2 f h) (m1 ++ m2) (mu1 || mu2) := PE_con (pe_ix ix_seq ha hb hs) fun σ H Q q => two_con ok_idx σ H Q q
end
/-! ### x[a:b] -/
abbrev OF (β : Type) := S β → Option (Option Int × S β)
def oN : OF β := fun st => some (none, st)
def oS (f : EF β) : OF β := fun st => bE (f st) fun v _ s => match v with
  | .d (.int i) => some (some i, s)
  | _ => none
def tO (K : PySem.W.Frag) (B : Bx β) (f : OF β) (m : List Nat) : TO := fun σ H Q => ∃ g st fp, Rel K B g st fp σ H ∧ ∃ o st', f st = some (o, st') ∧ ∀ fp' H', Res K B g m false st fp σ H st' fp' H' [] → Q o H'
abbrev VO (X : Cx) (B : Bx β) (e : Option Expr) (f : OF β) (m : List Nat) : Prop := PO X e (tO X.K B f m)
def bOp {γ : Type} (x : Option (Option Int × S β)) (k : Option Int → S β → Option γ) : Option γ := match x with
  | some (o, s) => k o s
  | none => none
@[simp] theorem bOp_some {γ : Type} (o : Option Int) (s : S β) (k : Option Int → S β → Option γ) : bOp (some (o, s)) k = k o s := rfl
theorem bOp_inv {γ : Type} {x : Option (Option Int × S β)} {k : Option Int → S β → Option γ} {z : γ} (h : bOp x k = some z) : ∃ p s, x = some (p, s) ∧ k p s = some z := by
  match x, h with
  | some (p, s), h => exact ⟨p, s, rfl, h⟩
def cutD (ds : List PyData) (lo hi : Option Int) : List PyData := (ds.drop (HT.sIx ds.length 0 lo)).take (HT.sIx ds.length ds.length hi - HT.sIx ds.length 0 lo)
def pSl (a : PyData) (lo hi : Option Int) : Option PyData := match a with
  | .list ds => some (.list (cutD ds lo hi))
  | .tuple ds => some (.tuple (cutD ds lo hi))
  | _ => none
def fSl (f : EF β) (l h : OF β) : EF β := fun st => bE (f st) fun v _ s => bOp (l s) fun lo s2 => bOp (h s2) fun hi s3 => match v with
  | .d a => (match pSl a lo hi with
    | some d => some (.d d, frOf true d, s3)
    | none => none)
  | .box => none
def rSl (K : PySem.W.Frag) : V → Option Int → Option Int → Hp → VK → Prop := fun x lo hi H Q => rSlL K x lo hi H Q ∨ rSlA K x lo hi H Q
theorem cut_whole {α : Type} {xs : List α} {lo hi : Option Int} (h : HT.sIx xs.length 0 lo = 0 ∧ HT.sIx xs.length xs.length hi = xs.length) : (xs.drop (HT.sIx xs.length 0 lo)).take (HT.sIx xs.length xs.length hi - HT.sIx xs.length 0 lo) = xs := by
  rw [h.1, h.2]; simp
section
variable {X : Cx} {B : Bx β} {pos p2 : Pos}
theorem PO_con {e : Option Expr} {t t' : TO} (h : PO X e t) (w : ∀ σ H Q, t' σ H Q → t σ H Q) : PO X e t' := ⟨fun pins s σ H Q I q => h.run pins s σ H Q I (w σ H Q q)⟩
theorem oNo : VO X B none (oN (β := β)) [] := by
  refine PO_con po_none ?_
  rintro σ H Q ⟨g, st, fp, rel, o, st', e, q⟩
  cases e
  exact q fp H (Res.refl rel)
theorem oSo {e : Expr} {f : EF β} {m : List Nat} (h : VE X B e f m false) : VO X B (some e) (oS f) m := by
  refine PO_con (po_some h) ?_
  rintro σ H Q ⟨g, st, fp, rel, o, st', e, q⟩
  obtain ⟨v, fr, s, e1, e⟩ := bE_inv e
  split at e
  · cases e
    refine ⟨g, st, fp, rel, _, fr, _, e1, fun x F fp1 H1 r1 => ?_⟩
    obtain ⟨rfl, rfl⟩ := rp_int r1.one
    exact ⟨_, rfl, q fp1 H1 (r1.weak (fun _ h => h) (fun h => h) (List.nil_sublist _))⟩
  · cases e
theorem ok_sl {K : PySem.W.Frag} {H : Hp} {x : V} {a d : PyData} {F : List Addr} {lo hi : Option Int} {Q : VK} (h : Rp K H x a F) (e : pSl a lo hi = some d) (q : ∀ z H2 F2, New K H H2 z d F2 F true → Q z H2) : rSl K x lo hi H Q := by
  unfold pSl at e
  split at e
  · cases e
    cases h with
    | lst h1 h2 =>
      obtain ⟨G, h3, h4⟩ := h2.sub (HT.sIx _ 0 lo) (HT.sIx _ _ hi - HT.sIx _ 0 lo)
      refine .inl ⟨_, _, rfl, .of h1, fun p hp => q _ _ _ (.list (F := G) hp ?_ fun a ha => List.mem_cons_of_mem _ (h4.subset ha))⟩
      unfold cutV cutD
      rw [h2.length]
      exact h3
  · cases e
    cases h with
    | tup h1 h2 =>
      refine .inr ⟨_, _, rfl, h1, fun w => ?_, fun w p hp => ?_⟩
      · have e2 : cutD _ lo hi = _ := cut_whole (xs := _) (by rw [h2.length] at w; exact w)
        refine q _ H _ ⟨.refl _, ?_, fun a ha => .inl ha, fun f => ?_⟩
        · rw [e2]; exact .tup h1 h2
        · rw [e2] at f
          have e : _ = [] := RpA.im _ _ _ h2 f
          rw [e]; exact ⟨List.nodup_nil, fun a ha => (nomatch ha)⟩
      · obtain ⟨G, h3, h4⟩ := h2.sub (HT.sIx _ 0 lo) (HT.sIx _ _ hi - HT.sIx _ 0 lo)
        refine q _ _ _ (.tup (F := G) hp ?_ fun a ha => h4.subset ha)
        unfold cutV cutD
        rw [h2.length]
        exact h3
  · cases e
theorem xSl {e : Expr} {lo hi : Option Expr} {f : EF β} {l h : OF β} {m m1 m2 : List Nat} {mu : Bool} (he : VE X B e f m mu) (hl : VO X B lo l m1) (hh : VO X B hi h m2) : VE X B (.Subscript e (.Slice lo hi none p2) pos) (fSl f l h) (m ++ (m1 ++ m2)) mu := by
  refine PE_con (pe_slice (sl_list.or sl_tupA) he hl hh) ?_
  rintro σ H Q ⟨g, st, fp, rel, v, fr, st', e, q⟩
  obtain ⟨v1, fr1, s1, e1, e⟩ := bE_inv e
  obtain ⟨lo', s2, e2, e⟩ := bOp_inv e
  obtain ⟨hi', s3, e3, e⟩ := bOp_inv e
  cases v1 with
  | box => cases e
  | d a =>
    have e : (match pSl a lo' hi' with | some d => some (R.d d, frOf true d, s3) | none => none) = some (v, fr, st') := e
    split at e
    case h_2 => cases e
    rename_i d e4
    cases e
    refine ⟨g, st, fp, rel, .d a, fr1, s1, e1, fun x F fp1 H1 r1 => ⟨g, s1, fp1, r1.rel, lo', s2, e2, fun fp2 H2 r2 => ⟨g, s2, fp2, r2.rel, hi', _, e3, fun fp3 H3 r3 => ?_⟩⟩⟩
    have r12 := Res.app rel r1 (Res.app r1.rel r2 r3 fun hm => by cases hm) fun hm => by cases hm
    have c := r12.each ⟨x, .d a, fr1, F⟩ (by simp)
    refine ok_sl c.rr e4 fun z H4 F4 n => q z F4 fp3 H4 ?_
    have := r12.new rel n fun b hb => ⟨⟨x, .d a, fr1, F⟩, by simp, hb⟩
    rw [Bool.or_false, Bool.or_false] at this
    exact this
/-! ### (a, b), [a, b] -/
theorem Res.pack {K : PySem.W.Frag} {g : Gh} {st st' : S β} {fp fp' : Nat → List Addr} {σ : L2.St} {H H1 H2 : Hp} {m : List Nat} {mu : Bool} {cs : List Cm} {x : V} {v : PyData} {nw : List Addr} (rel : Rel K B g st fp σ H) (r : Res K B g m mu st fp σ H st' fp' H1 cs) (sm : Same H1 H2) (hn : ∀ a ∈ nw, H1 a = none) (hnd : nw.Nodup)
    (rr : Rp K H2 x v (nw ++ (cs.map (·.F)).flatten)) : Res K B g m mu st fp σ H st' fp' H2 [⟨x, .d v, cs.all (·.fr), nw ++ (cs.map (·.F)).flatten⟩] := by
  have newNb : ∀ a, H1 a = none → a ∉ g.FB ∧ a ∉ g.X := fun a z => ⟨fun ha => B.trk r.rel.bx a ha z, fun ha => r.rel.xt a ha z⟩
  refine ⟨r.rel.same sm, r.sub, fun a o e n1 n2 n3 => sm a o (r.keep a o e n1 n2 n3), fun a e => r.trk a (sm.free e), r.tt.trans (.same sm), fun c hc => ?_, .cons (fun _ h => (nomatch h)) List.Pairwise.nil, fun e => ?_⟩
  · have : c = ⟨x, .d v, cs.all (·.fr), nw ++ (cs.map (·.F)).flatten⟩ := by simpa using hc
    subst this
    refine ⟨rr, fun f => ?_, fun i y e ni a ha z => ?_, fun a ha => ?_, fun a ha => ?_⟩
    · have all : ∀ c ∈ cs, c.fr = true := fun c hc => List.all_eq_true.mp f c hc
      refine ⟨List.nodup_append.mpr ⟨hnd, flat_nodup r.pw all fun c hc => ((r.each c hc).fr (all c hc)).1, fun a ha b hb z => ?_⟩, fun i y o e a ha z => ?_, fun a ha => ?_⟩
      · subst z
        obtain ⟨c, hc, h⟩ := mem_flat hb
        obtain ⟨xs, t⟩ := (r.each c hc).rr.trk a h
        rw [hn a ha] at t; cases t
      · rcases List.mem_append.mp ha with h | h
        · exact r.rel.trk e a z (hn a h)
        · obtain ⟨c, hc, h⟩ := mem_flat h
          exact ((r.each c hc).fr (all c hc)).2.1 i y o e a h z
      · rcases List.mem_append.mp ha with h | h
        · exact .inr (r.trk a (hn a h))
        · obtain ⟨c, hc, h⟩ := mem_flat h
          exact ((r.each c hc).fr (all c hc)).2.2 a h
    · rcases List.mem_append.mp ha with h | h
      · exact r.rel.trk e a z (hn a h)
      · obtain ⟨c, hc, h⟩ := mem_flat h
        exact (r.each c hc).ali i y e ni a h z
    · rcases List.mem_append.mp ha with h | h
      · exact .inr (.inr (.inr (r.trk a (hn a h))))
      · obtain ⟨c, hc, h⟩ := mem_flat h
        exact (r.each c hc).src a h
    · rcases List.mem_append.mp ha with h | h
      · exact newNb a (hn a h)
      · obtain ⟨c, hc, h⟩ := mem_flat h
        exact (r.each c hc).nb a h
  · obtain ⟨p1, p2, p3⟩ := r.pure e
    exact ⟨p1, p2, fun a o e n2 n3 => sm a o (p3 a o e n2 n3)⟩
def fTup (fa : AF β) : EF β := fun st => bA (fa st) fun vs s => match toDs vs with
  | some ds => gd (decide (vs.length ≤ sizeLine)) (some (.d (.tuple ds), vs.all (·.2), s))
  | none => none
def fLst (fa : AF β) : EF β := fun st => bA (fa st) fun vs s => match toDs vs with
  | some ds => gd (decide (vs.length ≤ sizeLine)) (some (.d (.list ds), vs.all (·.2), s))
  | none => none
theorem xTup {es : List Expr} {x1} {fa : AF β} {m : List Nat} {mu : Bool} (h : VA X B es fa m mu) : VE X B (.Tuple es x1 pos) (fTup fa) m mu := by
  refine PE_con (pe_tup h) ?_
  rintro σ H Q ⟨g, st, fp, rel, v, fr, st', e, q⟩
  obtain ⟨vs, s, e1, e⟩ := bA_inv e
  split at e
  case h_2 => cases e
  rename_i ds e2
  obtain ⟨hz, e⟩ := gd_inv e
  have hz := of_decide_eq_true hz
  cases e
  refine ⟨g, st, fp, rel, vs, _, e1, fun cs fp1 H1 r1 hc => ⟨by rw [List.length_map, ← List.length_map (f := fun c : Cm => (c.v, c.fr)), hc]; exact hz, fun p hp => ?_⟩⟩
  have e3 : vs.all (·.2) = cs.all (·.fr) := by rw [← hc, List.all_map]; rfl
  rw [← hc] at e2
  rw [e3] at q
  have sm := same_upd (o := .tup (cs.map (·.x))) hp
  exact q _ _ fp1 _ (r1.pack (nw := []) rel sm (fun a ha => (nomatch ha)) List.nodup_nil (.tup (.of upd_same) ((rpA_of (fun c hc => (r1.each c hc).rr) (toDs_inv e2)).move (.same sm) _ _ _ fun a _ o e => sm a o e)))
theorem xLst {es : List Expr} {fa : AF β} {m : List Nat} {mu : Bool} (h : VA X B es fa m mu) : VE X B (.List es pos) (fLst fa) m mu := by
  refine PE_con (pe_lst h) ?_
  rintro σ H Q ⟨g, st, fp, rel, v, fr, st', e, q⟩
  obtain ⟨vs, s, e1, e⟩ := bA_inv e
  split at e
  case h_2 => cases e
  rename_i ds e2
  obtain ⟨hz, e⟩ := gd_inv e
  have hz := of_decide_eq_true hz
  cases e
  refine ⟨g, st, fp, rel, vs, _, e1, fun cs fp1 H1 r1 hc => ⟨by rw [List.length_map, ← List.length_map (f := fun c : Cm => (c.v, c.fr)), hc]; exact hz, fun p hp => ?_⟩⟩
  have e3 : vs.all (·.2) = cs.all (·.fr) := by rw [← hc, List.all_map]; rfl
  rw [← hc] at e2
  rw [e3] at q
  have sm := same_upd (o := .lst (cs.map (·.x))) hp
  exact q _ _ fp1 _ (r1.pack (nw := [p]) rel sm (fun a ha => by rw [List.mem_singleton.mp ha]; exact hp) (by simp) (.lst upd_same ((rpA_of (fun c hc => (r1.each c hc).rr) (toDs_inv e2)).move (.same sm) _ _ _ fun a _ o e => sm a o e)))
end
/-! ### built-in functions -/
def asInts : List PyData → Option (List Int)
  | [] => some []
  | .int i :: r => (match asInts r with
    | some ns => some (i :: ns)
    | none => none)
  | _ :: _ => none
def asBools : List PyData → Option (List Bool)
  | [] => some []
  | .bool i :: r => (match asBools r with
    | some ns => some (i :: ns)
    | none => none)
  | _ :: _ => none
theorem asInts_rp {K : PySem.W.Frag} {H : Hp} : ∀ {ds : List PyData} {ns : List Int} {xs : List V} {F : List Addr}, asInts ds = some ns → RpA K H xs ds F → xs = ns.map V.int ∧ F = []
  | [], ns, _, _, e, h => by cases h; cases e; exact ⟨rfl, rfl⟩
  | d :: ds, ns, _, _, e, h => by
    cases h with
    | cons r s =>
      cases d with
      | int i =>
        have e : (match asInts ds with | some ns => some (i :: ns) | none => none) = some ns := e
        split at e
        · rename_i ms e1
          cases e
          obtain ⟨rfl, rfl⟩ := rp_int r
          obtain ⟨rfl, rfl⟩ := asInts_rp e1 s
          exact ⟨rfl, rfl⟩
        · cases e
      | _ => cases e
theorem asBools_rp {K : PySem.W.Frag} {H : Hp} : ∀ {ds : List PyData} {ns : List Bool} {xs : List V} {F : List Addr}, asBools ds = some ns → RpA K H xs ds F → xs = ns.map V.bl ∧ F = []
  | [], ns, _, _, e, h => by cases h; cases e; exact ⟨rfl, rfl⟩
  | d :: ds, ns, _, _, e, h => by
    cases h with
    | cons r s =>
      cases d with
      | bool i =>
        have e : (match asBools ds with | some ns => some (i :: ns) | none => none) = some ns := e
        split at e
        · rename_i ms e1
          cases e
          obtain ⟨rfl, rfl⟩ := rp_bl r
          obtain ⟨rfl, rfl⟩ := asBools_rp e1 s
          exact ⟨rfl, rfl⟩
        · cases e
      | _ => cases e
theorem asInts_map (ns : List Int) : asInts (ns.map PyData.int) = some ns := by
  induction ns with
  | nil => rfl
  | cons n ns ih => rw [List.map_cons, asInts, ih]
theorem asBools_map (ns : List Bool) : asBools (ns.map PyData.bool) = some ns := by
  induction ns with
  | nil => rfl
  | cons n ns ih => rw [List.map_cons, asBools, ih]
theorem rpA_ints {K : PySem.W.Frag} {H : Hp} : ∀ ns : List Int, RpA K H (ns.map V.int) (ns.map PyData.int) []
  | [] => .nil
  | n :: ns => .cons (.int n) (rpA_ints ns)
def pLen : List PyData → Option PyData
  | [.list ds] => some (.int ds.length)
  | [.tuple ds] => some (.int ds.length)
  | [.str s] => gd (decide (s.length ≤ sizeLine)) (some (.int s.length))
  | _ => none
theorem ok_len {K : PySem.W.Frag} : PrimL K (fun xs H Q => ∃ x n, xs = [x] ∧ LenV K x H n ∧ Q (.int n) H) pLen false := by
  intro H xs ds F d Q h e q
  unfold pLen at e
  split at e
  · cases e
    cases h with
    | cons r s =>
      cases s
      cases r with
      | lst h1 h2 => exact ⟨_, _, rfl, .inl ⟨_, .of h1, rfl⟩, by rw [h2.length]; exact q _ H [] (.at (.int _))⟩
  · cases e
    cases h with
    | cons r s =>
      cases s
      cases r with
      | tup h1 h2 => exact ⟨_, _, rfl, .inr ⟨_, h1, rfl⟩, by rw [h2.length]; exact q _ H [] (.at (.int _))⟩
  · obtain ⟨hz, e⟩ := gd_inv e
    cases e
    cases h with
    | cons r s =>
      cases s
      obtain ⟨rfl, rfl⟩ := rp_str r
      exact ⟨_, _, rfl, ⟨of_decide_eq_true hz, rfl⟩, q _ H [] (.at (.int _))⟩
  · cases e
def pList : List PyData → Option PyData
  | [.list ds] => some (.list ds)
  | [.tuple ds] => some (.list ds)
  | _ => none
theorem ok_list {K : PySem.W.Frag} : PrimL K (fun xs H Q => ∃ p ys, xs = [.ref p] ∧ (SqL K H p ys ∨ SqT K H p ys) ∧ ∀ l, H l = none → Q (.ref l) (upd H l (.lst ys))) pList true := by
  intro H xs ds F d Q h e q
  unfold pList at e
  split at e
  · cases e
    cases h with
    | cons r s =>
      cases s
      cases r with
      | lst h1 h2 => exact ⟨_, _, rfl, .inl (.of h1), fun l hl => q _ _ _ (.list hl h2 fun a ha => List.mem_append_left _ (List.mem_cons_of_mem _ ha))⟩
  · cases e
    cases h with
    | cons r s =>
      cases s
      cases r with
      | tup h1 h2 => exact ⟨_, _, rfl, .inr h1, fun l hl => q _ _ _ (.list hl h2 fun a ha => List.mem_append_left _ ha)⟩
  · cases e
def pTuple : List PyData → Option PyData
  | [.list ds] => some (.tuple ds)
  | [.tuple ds] => some (.tuple ds)
  | _ => none
theorem ok_tuple {K : PySem.W.Frag} : PrimL K (fun xs H Q => ∃ p ys, xs = [.ref p] ∧ ((SqL K H p ys ∧ ∀ l, H l = none → Q (.ref l) (upd H l (.tup ys))) ∨ (SqT K H p ys ∧ Q (.ref p) H))) pTuple false := by
  intro H xs ds F d Q h e q
  unfold pTuple at e
  split at e
  · cases e
    cases h with
    | cons r s =>
      cases s
      cases r with
      | lst h1 h2 => exact ⟨_, _, rfl, .inl ⟨.of h1, fun l hl => q _ _ _ (.tup hl h2 fun a ha => List.mem_append_left _ (List.mem_cons_of_mem _ ha))⟩⟩
  · cases e
    cases h with
    | cons r s =>
      cases s
      cases r with
      | tup h1 h2 => exact ⟨_, _, rfl, .inr ⟨h1, q _ H _ (.part (.tup h1 h2) fun a ha => List.mem_append_left _ ha)⟩⟩
  · cases e
def pInts (f : List Int → Option PyData) : List PyData → Option PyData
  | [.list ds] => (match asInts ds with
    | some ns => f ns
    | none => none)
  | _ => none
def pBools (f : List Bool → PyData) : List PyData → Option PyData
  | [.list ds] => (match asBools ds with
    | some ns => some (f ns)
    | none => none)
  | _ => none
theorem pInts_inv {K : PySem.W.Frag} {H : Hp} {f : List Int → Option PyData} {ds : List PyData} {d : PyData} {xs : List V} {F : List Addr} (h : RpA K H xs ds F) (e : pInts f ds = some d) : ∃ a ns, xs = [.ref a] ∧ H a = some (.lst (ns.map V.int)) ∧ F = [a] ∧ f ns = some d := by
  unfold pInts at e
  split at e
  · split at e
    · rename_i es ns e1
      cases h with
      | cons r s =>
        cases s
        cases r with
        | lst h1 h2 =>
          obtain ⟨rfl, rfl⟩ := asInts_rp e1 h2
          exact ⟨_, ns, rfl, h1, rfl, e⟩
    · cases e
  · cases e
theorem pBools_inv {K : PySem.W.Frag} {H : Hp} {f : List Bool → PyData} {ds : List PyData} {d : PyData} {xs : List V} {F : List Addr} (h : RpA K H xs ds F) (e : pBools f ds = some d) : ∃ a ns, xs = [.ref a] ∧ H a = some (.lst (ns.map V.bl)) ∧ F = [a] ∧ f ns = d := by
  unfold pBools at e
  split at e
  · split at e
    · rename_i es ns e1
      cases e
      cases h with
      | cons r s =>
        cases s
        cases r with
        | lst h1 h2 =>
          obtain ⟨rfl, rfl⟩ := asBools_rp e1 h2
          exact ⟨_, ns, rfl, h1, rfl, rfl⟩
    · cases e
  · cases e
def pAll := pBools fun bs => .bool (bs.all id)
def pAny := pBools fun bs => .bool (bs.any id)
def pSum := pInts fun ns => some (.int ns.sum)
def pMin := pInts fun ns => ns.min?.map .int
def pMax := pInts fun ns => ns.max?.map .int
theorem ok_all {K : PySem.W.Frag} : PrimL K (rAll K) pAll false := by
  intro H xs ds F d Q h e q
  obtain ⟨a, ns, rfl, h1, rfl, rfl⟩ := pBools_inv h e
  exact ⟨a, ns, rfl, .of h1, q _ H [] (.at (.bl _))⟩
theorem ok_any {K : PySem.W.Frag} : PrimL K (rAny K) pAny false := by
  intro H xs ds F d Q h e q
  obtain ⟨a, ns, rfl, h1, rfl, rfl⟩ := pBools_inv h e
  exact ⟨a, ns, rfl, .of h1, q _ H [] (.at (.bl _))⟩
theorem ok_sum {K : PySem.W.Frag} : PrimL K (rSum K) pSum false := by
  intro H xs ds F d Q h e q
  obtain ⟨a, ns, rfl, h1, rfl, e⟩ := pInts_inv h e
  cases e
  exact ⟨a, ns, rfl, .of h1, q _ H [] (.at (.int _))⟩
theorem ok_min {K : PySem.W.Frag} : PrimL K (rMin K) pMin false := by
  intro H xs ds F d Q h e q
  obtain ⟨a, ns, rfl, h1, rfl, e⟩ := pInts_inv h e
  cases e1 : ns.min? with
  | none => rw [e1] at e; cases e
  | some k =>
    rw [e1] at e
    cases e
    have h2 := List.min?_eq_some_iff.mp e1
    refine ⟨a, ns, rfl, .of h1, List.length_pos_of_mem h2.1, fun m hm hy => ?_⟩
    have : m = k := Int.le_antisymm (hy k h2.1) (h2.2 m hm)
    rw [this]
    exact q _ H [] (.at (.int _))
theorem ok_max {K : PySem.W.Frag} : PrimL K (rMax K) pMax false := by
  intro H xs ds F d Q h e q
  obtain ⟨a, ns, rfl, h1, rfl, e⟩ := pInts_inv h e
  cases e1 : ns.max? with
  | none => rw [e1] at e; cases e
  | some k =>
    rw [e1] at e
    cases e
    have h2 := List.max?_eq_some_iff.mp e1
    refine ⟨a, ns, rfl, .of h1, List.length_pos_of_mem h2.1, fun m hm hy => ?_⟩
    have : m = k := Int.le_antisymm (h2.2 m hm) (hy k h2.1)
    rw [this]
    exact q _ H [] (.at (.int _))
def p2I (f : Int → Int → Int) : List PyData → Option PyData
  | [.int i, .int j] => some (.int (f i j))
  | _ => none
theorem ok_min2 {K : PySem.W.Frag} : PrimL K (fun xs H Q => ∃ i j, xs = [.int i, .int j] ∧ Q (.int (if j < i then j else i)) H) (p2I fun i j => if j < i then j else i) false := by
  intro H xs ds F d Q h e q
  unfold p2I at e
  split at e
  · cases e
    cases h with
    | cons r s =>
      cases s with
      | cons r2 s2 =>
        cases s2
        obtain ⟨rfl, rfl⟩ := rp_int r
        obtain ⟨rfl, rfl⟩ := rp_int r2
        exact ⟨_, _, rfl, q _ H [] (.at (.int _))⟩
  · cases e
theorem ok_max2 {K : PySem.W.Frag} : PrimL K (fun xs H Q => ∃ i j, xs = [.int i, .int j] ∧ Q (.int (if j > i then j else i)) H) (p2I fun i j => if j > i then j else i) false := by
  intro H xs ds F d Q h e q
  unfold p2I at e
  split at e
  · cases e
    cases h with
    | cons r s =>
      cases s with
      | cons r2 s2 =>
        cases s2
        obtain ⟨rfl, rfl⟩ := rp_int r
        obtain ⟨rfl, rfl⟩ := rp_int r2
        exact ⟨_, _, rfl, q _ H [] (.at (.int _))⟩
  · cases e
def pAbs : List PyData → Option PyData
  | [.int i] => some (.int (if i < 0 then -i else i))
  | _ => none
theorem ok_abs {K : PySem.W.Frag} : PrimL K (fun xs H Q => ∃ i, xs = [.int i] ∧ Q (.int (if i < 0 then -i else i)) H) pAbs false := by
  intro H xs ds F d Q h e q
  unfold pAbs at e
  split at e
  · cases e
    cases h with
    | cons r s =>
      cases s
      obtain ⟨rfl, rfl⟩ := rp_int r
      exact ⟨_, rfl, q _ H [] (.at (.int _))⟩
  · cases e
def pInt : List PyData → Option PyData
  | [.int i] => some (.int i)
  | [.bool k] => some (.int (if k then 1 else 0))
  | _ => none
theorem ok_int {K : PySem.W.Frag} : PrimL K (fun xs H Q => (∃ i, xs = [.int i] ∧ Q (.int i) H) ∨ ∃ k, xs = [.bl k] ∧ Q (.int (if k then 1 else 0)) H) pInt false := by
  intro H xs ds F d Q h e q
  unfold pInt at e
  split at e
  · cases e
    cases h with
    | cons r s =>
      cases s
      obtain ⟨rfl, rfl⟩ := rp_int r
      exact .inl ⟨_, rfl, q _ H [] (.at (.int _))⟩
  · cases e
    cases h with
    | cons r s =>
      cases s
      obtain ⟨rfl, rfl⟩ := rp_bl r
      exact .inr ⟨_, rfl, q _ H [] (.at (.int _))⟩
  · cases e
def pStrI : List PyData → Option PyData
  | [.int i] => gd (decide (i.natAbs.log2 < 1920)) (some (.str (toString i)))
  | _ => none
theorem ok_strI {K : PySem.W.Frag} : PrimL K (fun xs H Q => ∃ i, xs = [.int i] ∧ i.natAbs.log2 < 1920 ∧ Q (.str (toString i)) H) pStrI false := by
  intro H xs ds F d Q h e q
  unfold pStrI at e
  split at e
  · obtain ⟨hz, e⟩ := gd_inv e
    cases e
    cases h with
    | cons r s =>
      cases s
      obtain ⟨rfl, rfl⟩ := rp_int r
      exact ⟨_, rfl, of_decide_eq_true hz, q _ H [] (.at (.str _))⟩
  · cases e
def sortI (ns : List Int) : List Int := ns.mergeSort fun a b => decide (a ≤ b)
theorem sortI_perm (ns : List Int) : (sortI ns).Perm ns := List.mergeSort_perm _ _
theorem sortI_sorted (ns : List Int) : (sortI ns).Pairwise (· ≤ ·) := by
  have h := List.pairwise_mergeSort (le := fun a b : Int => decide (a ≤ b)) (fun a b c h1 h2 => by
    simp only [decide_eq_true_eq] at *; omega) (fun a b => by
    simp only [Bool.or_eq_true, decide_eq_true_eq]; omega) ns
  exact h.imp fun h => of_decide_eq_true h
theorem sorted_uniq : ∀ {a b : List Int}, a.Perm b → a.Pairwise (· ≤ ·) → b.Pairwise (· ≤ ·) → a = b
  | [], b, p, _, _ => (List.nil_perm.mp p).symm
  | x :: a, [], p, _, _ => by simp at p
  | x :: a, y :: b, p, ha, hb => by
    cases ha with
    | cons h1 h2 =>
      cases hb with
      | cons h3 h4 =>
        have e : x = y := by
          have m1 : x ∈ y :: b := p.mem_iff.mp List.mem_cons_self
          have m2 : y ∈ x :: a := p.mem_iff.mpr List.mem_cons_self
          rcases List.mem_cons.mp m1 with z | z
          · exact z
          · rcases List.mem_cons.mp m2 with w | w
            · exact w.symm
            · exact Int.le_antisymm (h1 y w) (h3 x z)
        subst e
        rw [sorted_uniq (List.Perm.cons_inv p) h2 h4]
def pSorted := pInts fun ns => some (.list ((sortI ns).map .int))
theorem ok_sorted {K : PySem.W.Frag} : PrimL K (rSortedI K) pSorted true := by
  intro H xs ds F d Q h e q
  obtain ⟨a, ns, rfl, h1, rfl, e⟩ := pInts_inv h e
  cases e
  refine ⟨a, ns, rfl, .of h1, fun ns' p hp hs hn => ?_⟩
  have e : ns' = sortI ns := sorted_uniq (hp.trans (sortI_perm ns).symm) hs (sortI_sorted ns)
  subst e
  exact q _ _ _ (.list (F := []) hn (rpA_ints _) fun a ha => (nomatch ha))
/-! ### isinstance -/
def tyN : PyData → String
  | .none => "NoneType"
  | .bool _ => "bool"
  | .int _ => "int"
  | .str _ => "str"
  | .tuple _ => "tuple"
  | .list _ => "list"
  | .dict _ => "dict"
inductive Ty5 where
  | int | bool | str | tuple | list
def Ty5.nm : Ty5 → String
  | .int => "int"
  | .bool => "bool"
  | .str => "str"
  | .tuple => "tuple"
  | .list => "list"
def isD (t : Ty5) (d : PyData) : Bool := match t, d with
  | .int, .int _ => true
  | .int, .bool _ => true
  | .bool, .bool _ => true
  | .str, .str _ => true
  | .tuple, .tuple _ => true
  | .list, .list _ => true
  | _, _ => false
theorem sqT_ty {K : PySem.W.Frag} {H : Hp} {a : Addr} {xs : List V} (h : SqT K H a xs) : TyX K H (.ref a) (.type "tuple") := by
  rcases h with (h | ⟨o, h⟩) | ⟨o, its, n, h1, h2, _⟩
  · exact .base (.tup h)
  · exact .fTuple h
  · exact .kTuple h1 h2
theorem rp_ty {K : PySem.W.Frag} {H : Hp} {x : V} {d : PyData} {F : List Addr} (h : Rp K H x d F) : TyX K H x (.type (tyN d)) := by
  cases h with
  | non => exact .base .non
  | bl b => exact .base (.bl b)
  | int i => exact .base (.int i)
  | str s => exact .base (.str s)
  | tup h1 _ => exact sqT_ty h1
  | lst h1 _ => exact .base (.lst h1)
theorem kit_all (t : Ty5) (d : PyData) (h : ∀ kvs, d ≠ .dict kvs) : kitB (tyN d) t.nm = some (isD t d) := by
  have e : ∀ (t : Ty5), kitB "NoneType" t.nm = some false ∧ kitB "bool" t.nm = some (match t with | .int => true | .bool => true | _ => false) ∧ kitB "int" t.nm = some (match t with | .int => true | _ => false) ∧ kitB "str" t.nm = some (match t with | .str => true | _ => false) ∧
      kitB "tuple" t.nm = some (match t with | .tuple => true | _ => false) ∧ kitB "list" t.nm = some (match t with | .list => true | _ => false) := by
    intro t
    cases t <;> refine ⟨?_, ?_, ?_, ?_, ?_, ?_⟩ <;> decide +kernel
  obtain ⟨h1, h2, h3, h4, h5, h6⟩ := e t
  cases d with
  | dict kvs => exact absurd rfl (h kvs)
  | none => cases t <;> exact h1
  | bool b => cases t <;> exact h2
  | int i => cases t <;> exact h3
  | str s => cases t <;> exact h4
  | tuple xs => cases t <;> exact h5
  | list xs => cases t <;> exact h6
def pIsD (t : Ty5) (d : PyData) : Option PyData := some (.bool (isD t d))
section
variable {X : Cx} {B : Bx β} {pos : Pos}
theorem xIsi {t : Ty5} {p : Pos} {e et : Expr} {f : EF β} {m : List Nat} {mu : Bool} (hg : Gl X "isinstance") (hm : X.mg "isinstance" = none) (he : VE X B e f m mu) (ht : PE X et (tC (.ty t.nm))) (h1 : starEach [e, et] X.env = (false, eval e X.env) :: starEach [et] X.env := by rfl) (h2 : starEach [et] X.env = (false, eval et X.env) :: starEach [] X.env := by rfl)
    (hpl : (backTo pos (starEach [et] X.env)).any (·.1) = false := by rfl) : VE X B (.Call (.Name "isinstance" p) [e, et] [] pos) (f1 (pIsD t) false f) m mu := by
  refine PE_con (pe_callB call_isi hg hm boot_isinstance (pa_cons he (pa_cons ht pa_nil h2) h1) (by decide) (by decide) h1 hpl) ?_
  intro σ H Q q
  have hp : Prim1 X.K (fun x H Q => ∃ (t' : Value) (b : Bool), TyX X.K H x t' ∧ PySem.W.kitOne X.K t' (.type t.nm) = some b ∧ Q (.bl b) H) (pIsD t) false := by
    intro H x a F d Q ha e q
    cases e
    have nd : ∀ kvs, a ≠ .dict kvs := fun kvs z => by subst z; cases ha
    exact ⟨_, _, rp_ty ha, kit_ty (kit_all t a nd), q _ H [] (.at (.bl _))⟩
  have h := one_con hp σ H Q q
  · obtain ⟨g, st, fp, rel, v, fr, s, e1, k⟩ := h
    refine ⟨g, st, fp, rel, v, fr, s, e1, fun x F fp1 H1 r1 => ?_⟩
    obtain ⟨t', b, h1, h2, h3⟩ := k x F fp1 H1 r1
    exact ⟨x, .ty t.nm, t', .type t.nm, b, rfl, .ty _, h1, h2, h3⟩
/-! ### tuple(range(..)), list(range(..)) -/
def rgOk (a b : Int) : Bool := decide (-(2 ^ 62) ≤ a ∧ a < 2 ^ 62 ∧ -(2 ^ 62) ≤ b ∧ b < 2 ^ 62 ∧ (b - a).toNat ≤ 2 ^ 24)
theorem rgOk_ok {a b : Int} (h : rgOk a b = true) : RgOk a b := by
  exact (of_decide_eq_true (p := -(2 ^ 62) ≤ a ∧ a < 2 ^ 62 ∧ -(2 ^ 62) ≤ b ∧ b < 2 ^ 62 ∧ (b - a).toNat ≤ 2 ^ 24) h)
def mkRg (tup : Bool) (a b : Int) : PyData := if tup then .tuple (rgI a (b - a).toNat) else .list (rgI a (b - a).toNat)
def pRg1 (tup : Bool) : PyData → Option PyData
  | .int n => gd (rgOk 0 n) (some (mkRg tup 0 n))
  | _ => none
def pRg2 (tup : Bool) (a b : PyData) : Option PyData := match a, b with
  | .int i, .int j => gd (rgOk i j) (some (mkRg tup i j))
  | _, _ => none
theorem rpA_rg {K : PySem.W.Frag} {H : Hp} (a b : Int) : RpA K H (rgV a b) (rgI a (b - a).toNat) [] := by
  unfold rgV rgI
  generalize List.range (b - a).toNat = l
  induction l with
  | nil => exact .nil
  | cons i l ih => exact .cons (.int _) ih
theorem ok_rgT {K : PySem.W.Frag} {H : Hp} {a b : Int} {src : List Addr} {Q : VK} (h : rgOk a b = true) (q : ∀ z H2 F2, New K H H2 z (mkRg true a b) F2 src true → Q z H2) : RgOk a b ∧ ∀ p, H p = none → Q (.ref p) (upd H p (.tup (rgV a b))) :=
  ⟨rgOk_ok h, fun p hp => q _ _ _ (.tup (F := []) hp (rpA_rg a b) fun a ha => (nomatch ha))⟩
theorem ok_rgL {K : PySem.W.Frag} {H : Hp} {a b : Int} {src : List Addr} {Q : VK} (h : rgOk a b = true) (q : ∀ z H2 F2, New K H H2 z (mkRg false a b) F2 src true → Q z H2) : RgOk a b ∧ ∀ p, H p = none → Q (.ref p) (upd H p (.lst (rgV a b))) :=
  ⟨rgOk_ok h, fun p hp => q _ _ _ (.list (F := []) hp (rpA_rg a b) fun a ha => (nomatch ha))⟩
theorem xTupRg1 {p p2 pos2 : Pos} {e : Expr} {f : EF β} {m : List Nat} {mu : Bool} (hc : X.calm = true) (hg : Gl X "tuple") (hm : X.mg "tuple" = none) (hg2 : Gl X "range") (hm2 : X.mg "range" = none) (he : VE X B e f m mu) (na : starEach [e] X.env = (false, eval e X.env) :: starEach [] X.env := by rfl)
    (nb : starEach [.Call (.Name "range" p2) [e] [] pos2] X.env = (false, eval (.Call (.Name "range" p2) [e] [] pos2) X.env) :: starEach [] X.env := by rfl) : VE X B (.Call (.Name "tuple" p) [.Call (.Name "range" p2) [e] [] pos2] [] pos) (f1 (pRg1 true) true f) m mu := by
  refine PE_con (pe_tupRg hc hg hm (prg_1 hg2 hm2 he na) nb) fun σ H Q q => ?_
  refine one_con (r := fun x H Q => ∃ n, x = .int n ∧ RgOk 0 n ∧ ∀ q, H q = none → Q (.ref q) (upd H q (.tup (rgV 0 n)))) ?_ σ H Q q
  intro H x a F d Q ha e q
  unfold pRg1 at e
  split at e
  · obtain ⟨hz, e⟩ := gd_inv e
    cases e
    obtain ⟨rfl, rfl⟩ := rp_int ha
    exact ⟨_, rfl, ok_rgT hz q⟩
  · cases e
theorem xLstRg1 {p p2 pos2 : Pos} {e : Expr} {f : EF β} {m : List Nat} {mu : Bool} (hc : X.calm = true) (hg : Gl X "list") (hm : X.mg "list" = none) (hg2 : Gl X "range") (hm2 : X.mg "range" = none) (he : VE X B e f m mu) (na : starEach [e] X.env = (false, eval e X.env) :: starEach [] X.env := by rfl)
    (nb : starEach [.Call (.Name "range" p2) [e] [] pos2] X.env = (false, eval (.Call (.Name "range" p2) [e] [] pos2) X.env) :: starEach [] X.env := by rfl) : VE X B (.Call (.Name "list" p) [.Call (.Name "range" p2) [e] [] pos2] [] pos) (f1 (pRg1 false) true f) m mu := by
  refine PE_con (pe_listRg hc hg hm (prg_1 hg2 hm2 he na) nb) fun σ H Q q => ?_
  refine one_con (r := fun x H Q => ∃ n, x = .int n ∧ RgOk 0 n ∧ ∀ q, H q = none → Q (.ref q) (upd H q (.lst (rgV 0 n)))) ?_ σ H Q q
  intro H x a F d Q ha e q
  unfold pRg1 at e
  split at e
  · obtain ⟨hz, e⟩ := gd_inv e
    cases e
    obtain ⟨rfl, rfl⟩ := rp_int ha
    exact ⟨_, rfl, ok_rgL hz q⟩
  · cases e
theorem xTupRg2 {p p2 pos2 : Pos} {a b : Expr} {f h : EF β} {m1 m2 : List Nat} {mu1 mu2 : Bool} (hc : X.calm = true) (hg : Gl X "tuple") (hm : X.mg "tuple" = none) (hg2 : Gl X "range") (hm2 : X.mg "range" = none) (ha : VE X B a f m1 mu1) (hb : VE X B b h m2 mu2) (na : starEach [a, b] X.env = (false, eval a X.env) :: starEach [b] X.env := by rfl) (na2 : starEach [b] X.env = (false, eval b X.env) :: starEach [] X.env := by rfl) (npl : (backTo pos2 (starEach [b] X.env)).any (·.1) = false := by rfl)
    (nb : starEach [.Call (.Name "range" p2) [a, b] [] pos2] X.env = (false, eval (.Call (.Name "range" p2) [a, b] [] pos2) X.env) :: starEach [] X.env := by rfl) : VE X B (.Call (.Name "tuple" p) [.Call (.Name "range" p2) [a, b] [] pos2] [] pos) (f2 (pRg2 true) true mu2 f h) (m1 ++ m2) (mu1 || mu2) := by
  refine PE_con (pe_tupRg hc hg hm (prg_2 hg2 hm2 ha hb na na2 npl) nb) fun σ H Q q => ?_
  refine two_con (r := fun x y H Q => ∃ i j, x = .int i ∧ y = .int j ∧ RgOk i j ∧ ∀ q, H q = none → Q (.ref q) (upd H q (.tup (rgV i j)))) ?_ σ H Q q
  intro H x y a b F G d Q ha hb e q
  unfold pRg2 at e
  split at e
  · obtain ⟨hz, e⟩ := gd_inv e
    cases e
    obtain ⟨rfl, rfl⟩ := rp_int ha
    obtain ⟨rfl, rfl⟩ := rp_int hb
    exact ⟨_, _, rfl, rfl, ok_rgT hz q⟩
  · cases e
theorem xLstRg2 {p p2 pos2 : Pos} {a b : Expr} {f h : EF β} {m1 m2 : List Nat} {mu1 mu2 : Bool} (hc : X.calm = true) (hg : Gl X "list") (hm : X.mg "list" = none) (hg2 : Gl X "range") (hm2 : X.mg "range" = none) (ha : VE X B a f m1 mu1) (hb : VE X B b h m2 mu2) (na : starEach [a, b] X.env = (false, eval a X.env) :: starEach [b] X.env := by rfl) (na2 : starEach [b] X.env = (false, eval b X.env) :: starEach [] X.env := by rfl) (npl : (backTo pos2 (starEach [b] X.env)).any (·.1) = false := by rfl)
    (nb : starEach [.Call (.Name "range" p2) [a, b] [] pos2] X.env = (false, eval (.Call (.Name "range" p2) [a, b] [] pos2) X.env) :: starEach [] X.env := by rfl) : VE X B (.Call (.Name "list" p) [.Call (.Name "range" p2) [a, b] [] pos2] [] pos) (f2 (pRg2 false) true mu2 f h) (m1 ++ m2) (mu1 || mu2) := by
  refine PE_con (pe_listRg hc hg hm (prg_2 hg2 hm2 ha hb na na2 npl) nb) fun σ H Q q => ?_
  refine two_con (r := fun x y H Q => ∃ i j, x = .int i ∧ y = .int j ∧ RgOk i j ∧ ∀ q, H q = none → Q (.ref q) (upd H q (.lst (rgV i j)))) ?_ σ H Q q
  intro H x y a b F G d Q ha hb e q
  unfold pRg2 at e
  split at e
  · obtain ⟨hz, e⟩ := gd_inv e
    cases e
    obtain ⟨rfl, rfl⟩ := rp_int ha
    obtain ⟨rfl, rfl⟩ := rp_int hb
    exact ⟨_, _, rfl, rfl, ok_rgL hz q⟩
  · cases e
end
end Vv

set_option Elab.async false
set_option linter.all false
set_option maxRecDepth 100000
set_option autoImplicit false
set_option maxHeartbeats 4000000
/-! Vv, part 13: glue. -/
namespace Vv
open PySem PySem.Spec PyProof.Rows L2
variable {β : Type}
section
variable {X : Cx} {B : Bx β} {pos : Pos} {tg : Expr}
/-! ### targets -/
theorem pgNm {i : Nat} (h : PG X tg (gName i)) : PG X tg (gP X.K (.nm i)) := by
  show PG X tg (gName i)
  exact h
theorem pgsN : PGs X [] (gPs X.K []) := by
  show PGs X [] gNil
  exact pgs_nil
theorem pgsC {e : Expr} {es : List Expr} {p : Pat} {ps : List Pat} (h1 : PG X e (gP X.K p)) (h2 : PGs X es (gPs X.K ps)) (hs : (assignEach (e :: es) X.env).map (·.2) = assign e X.env :: (assignEach es X.env).map (·.2) := by rfl) : PGs X (e :: es) (gPs X.K (p :: ps)) := by
  show PGs X (e :: es) (gCons (gP X.K p) (gPs X.K ps))
  exact pgs_cons h1 h2 hs
theorem pgTp {es : List Expr} {k : Nat} {ps : List Pat} (hc : X.calm = true) (h : PGs X es (gPs X.K ps)) (hn : (assignEach es X.env).length = ps.length := by rfl) (hst : (assignEach es X.env).findIdx? (·.1) = none := by rfl) : PG X (.Tuple es k pos) (gP X.K (.tp ps)) := by
  show PG X (.Tuple es k pos) (gTup X.K ps.length (gPs X.K ps))
  exact pg_tup hc h hn hst
/-! ### a list or a tuple, walked -/
def iSeq (K : PySem.W.Frag) (tl : TE) : TI := fun σ H R => tl σ H fun x H1 => ∃ a, x = .ref a ∧ (((∃ xs, SqL K H1 a xs) ∧ R (Itl K a) H1) ∨ ((∃ xs, SqT K H1 a xs) ∧ R (Itt K a) H1))
theorem pi_seq {l : Expr} {tl : TE} (hl : PE X l tl) : PI X tg l (iSeq X.K tl) := by
  refine ⟨fun pins s σ H R I h => ?_⟩
  refine thn (hl.run pins s σ H _ I h) fun v s1 ⟨x, H1, I1, r1, q1⟩ => ?_
  obtain ⟨a, e, q⟩ := q1
  subst e
  cases r1
  rcases q with ⟨⟨xs, hq⟩, q⟩ | ⟨⟨xs, hq⟩, q⟩
  · obtain ⟨its, rv, p, hz⟩ := I1.list hq
    refine wpAny_pyIter_list p.isList ?_
    refine ⟨s1.heap.objs.size, [s1.heap.objs.size], _, _, H1, rfl, I1.kept (t' := s1.toks) fun b o e => Heap.get?_push_of_some _ e, turn_list a _, ⟨_, Heap.get?_push_size _ rfl, rfl, rfl⟩, fun b hb => ?_, q⟩
    have e : b = s1.heap.objs.size := by simpa using hb
    subst e
    exact I1.fpOk (Nat.le_refl _) (I1.hok.fresh (Nat.le_refl _))
  · obtain ⟨its, rv, p, hz⟩ := I1.tuple hq
    refine wpAny_pyIter_tuple (show s1.heap.IsTuple a its.toArray from p) ?_
    refine ⟨s1.heap.objs.size, [s1.heap.objs.size], _, _, H1, rfl, I1.kept (t' := s1.toks) fun b o e => Heap.get?_push_of_some _ e, turn_tuple a _, ⟨_, Heap.get?_push_size _ rfl, rfl, rfl⟩, fun b hb => ?_, q⟩
    have e : b = s1.heap.objs.size := by simpa using hb
    subst e
    exact I1.fpOk (Nat.le_refl _) (I1.hok.fresh (Nat.le_refl _))
def iSq (f : EF β) : IF β := fun st => bE (f st) fun v fr s => match v with
  | .d (.list ds) => some (ds, fr, s)
  | .d (.tuple ds) => some (ds, fr, s)
  | _ => none
theorem iSeq' {e : Expr} {f : EF β} {m : List Nat} {mu : Bool} (he : VE X B e f m mu) : VI X B tg e (iSq f) m mu := by
  refine PI_con (pi_seq he) ?_
  rintro σ H R ⟨g, st, fp, rel, ds, fr, st', e, q⟩
  obtain ⟨v, fr', s, e1, e⟩ := bE_inv e
  split at e
  · cases e
    refine ⟨g, st, fp, rel, _, fr, _, e1, fun x F fp1 H1 r1 => ?_⟩
    have rr := r1.one
    cases rr with
    | lst h1 h2 => exact ⟨_, rfl, .inl ⟨⟨_, SqL.of h1⟩, q _ fp1 H1 _ _ r1 rfl iter_list ⟨h1, h2⟩⟩⟩
  · cases e
    refine ⟨g, st, fp, rel, _, fr, _, e1, fun x F fp1 H1 r1 => ?_⟩
    have rr := r1.one
    cases rr with
    | tup h1 h2 => exact ⟨_, rfl, .inr ⟨⟨_, h1⟩, q _ fp1 H1 _ _ r1 rfl iter_tup ⟨h1, h2⟩⟩⟩
  · cases e
/-! ### constants of the module -/
theorem xGInt {x : Str} {i : Int} (hg : Gl X x) (hm : ∃ t, X.mg x = some (.int i t)) (hd : (x == ("__debug__" : Str)) = false := by decide) : VE X B (.Name x pos) (fC (.int i)) [] false := by
  obtain ⟨t, hm⟩ := hm
  exact xConst (pe_glob (v := .int i) hg hm ⟨t, rfl⟩ hd) fun _ => .int i
theorem xGStr {x z : Str} (hg : Gl X x) (hm : ∃ t, X.mg x = some (.str z t)) (hd : (x == ("__debug__" : Str)) = false := by decide) : VE X B (.Name x pos) (fC (.str z)) [] false := by
  obtain ⟨t, hm⟩ := hm
  exact xConst (pe_glob (v := .str z) hg hm ⟨t, rfl⟩ hd) fun _ => .str z
theorem hu65 {k : Nat} {A : Around} (r : Room k A) : A.units + 65 < cLine := by have := r.un; omega
/-! ### methods that turn nothing -/
def PrimM (K : PySem.W.Frag) (T : String) (r : V → List V → Hp → VK → Prop) (p : PyData → List PyData → Option PyData) (nt : Bool) : Prop :=
  (∀ (H : Hp) (x : V) (a : PyData) (F : List Addr) (ds : List PyData) (d : PyData), Rp K H x a F → p a ds = some d → tyV K T x H) ∧
  ∀ (H : Hp) (x : V) (a : PyData) (xs : List V) (ds : List PyData) (F G : List Addr) (d : PyData) (Q : VK), Rp K H x a F → RpA K H xs ds G → p a ds = some d → (∀ z H2 F2, New K H H2 z d F2 (F ++ G) nt → Q z H2) → r x xs H Q
def fMt (p : PyData → List PyData → Option PyData) (nt mu : Bool) (fo : EF β) (fa : AF β) : EF β := fun st => bE (fo st) fun v fr s => bA (fa s) fun vs s2 => gd (!mu || fr) (match v, toDs vs with
  | .d a, some ds => (match p a ds with
    | some d => some (.d d, frOf nt d, s2)
    | none => none)
  | _, _ => none)
theorem mt_con {T : String} {r : V → List V → Hp → VK → Prop} {p : PyData → List PyData → Option PyData} {nt mu1 mu2 : Bool} {fo : EF β} {fa : AF β} {m1 m2 : List Nat} (hp : PrimM X.K T r p nt) (σ : L2.St) (H : Hp) (Q : VK) (q : tE X.K B (fMt p nt mu2 fo fa) (m1 ++ m2) (mu1 || mu2) σ H Q) :
    tBM X.K T r (tE X.K B fo m1 mu1) (tA X.K B fa m2 mu2) σ H Q := by
  obtain ⟨g, st, fp, rel, v, fr, st', e, q⟩ := q
  obtain ⟨v1, fr1, s1, e1, e⟩ := bE_inv e
  obtain ⟨vs, s2, e2, e⟩ := bA_inv e
  obtain ⟨hg, e⟩ := gd_inv e
  obtain ⟨a, ds, d, rfl, e3, e4, e5⟩ : ∃ a ds d, v1 = R.d a ∧ toDs vs = some ds ∧ p a ds = some d ∧ (R.d d, frOf nt d, s2) = (v, fr, st') := by
    split at e
    · split at e
      · exact ⟨_, _, _, rfl, by assumption, by assumption, Option.some.inj e⟩
      · cases e
    · cases e
  cases e5
  refine ⟨g, st, fp, rel, .d a, fr1, s1, e1, fun x F fp1 H1 r1 => ⟨hp.1 H1 x a F ds d r1.one e4, g, s1, fp1, r1.rel, vs, _, e2, fun cs fp2 H2 r2 hc => ?_⟩⟩
  have r12 := Res.app rel r1 r2 fun hm c hc => by
    have : c = ⟨x, .d a, fr1, F⟩ := by simpa using hc
    subst this
    subst hm
    simpa using hg
  rw [← hc] at e3
  refine hp.2 H2 x a _ ds F _ d Q (r12.each ⟨x, .d a, fr1, F⟩ (by simp)).rr (rpA_of (fun c hc => (r12.each c (List.mem_append_right _ hc)).rr) (toDs_inv e3)) e4 fun z H3 F2 n => q z F2 fp2 H3 (r12.new rel n fun b hb => ?_)
  rcases List.mem_append.mp hb with z | z
  · exact ⟨⟨x, .d a, fr1, F⟩, by simp, z⟩
  · obtain ⟨c, hc, h⟩ := mem_flat z
    exact ⟨c, List.mem_append_right _ hc, h⟩
theorem xMt {T name id : String} {o e : Expr} {es : List Expr} {r : V → List V → Hp → VK → Prop} {p : PyData → List PyData → Option PyData} {nt mu1 mu2 : Bool} {fo : EF β} {fa : AF β} {m1 m2 : List Nat} {apos : Pos} {nm : Str} (hp : PrimM X.K T r p nt) (ho : VE X B o fo m1 mu1) (ha : VA X B (e :: es) fa m2 mu2)
    (hpe : ∀ {to : TE} {ta : TA}, PE X o to → PA X (e :: es) ta → PE X (.Call (.Attribute o nm apos) (e :: es) [] pos) (tBM X.K T r to ta)) : VE X B (.Call (.Attribute o nm apos) (e :: es) [] pos) (fMt p nt mu2 fo fa) (m1 ++ m2) (mu1 || mu2) := PE_con (hpe ho ha) fun σ H Q q => mt_con hp σ H Q q
/-- the first place of an equal one -/
def idxD (d : PyData) : List PyData → Option Nat
  | [] => none
  | z :: zs => if PyData.eqv z d then some 0 else (idxD d zs).map (· + 1)
theorem idxD_some {d : PyData} : ∀ {zs : List PyData} {j : Nat}, idxD d zs = some j → ∃ z, zs[j]? = some z ∧ PyData.eqv z d = true ∧ ∀ (m : Nat) (z' : PyData), m < j → zs[m]? = some z' → PyData.eqv z' d = false
  | [], j, e => by cases e
  | z :: zs, j, e => by
    unfold idxD at e
    split at e
    · rename_i h
      cases e
      exact ⟨z, rfl, h, fun m z' hm => by omega⟩
    · rename_i h
      obtain ⟨k, e1, rfl⟩ := Option.map_eq_some_iff.mp e
      obtain ⟨w, h1, h2, h3⟩ := idxD_some e1
      refine ⟨w, by simpa using h1, h2, fun m z' hm hz => ?_⟩
      cases m with
      | zero =>
        simp at hz
        subst hz
        simpa using h
      | succ m => exact h3 m z' (by omega) (by simpa using hz)
def pIndexL (a : PyData) (ds : List PyData) : Option PyData := match a, ds with
  | .list zs, [d] => gd (SeqAt.shaped (.list zs) && SeqAt.shaped d) ((idxD d zs).map fun j => .int (j : Nat))
  | _, _ => none
theorem ok_indexL {K : PySem.W.Frag} : PrimM K "list" (rIndexD K) pIndexL false := by
  refine ⟨fun H x a F ds d h e => ?_, fun H x a xs ds F G d Q h h2 e q => ?_⟩
  · unfold pIndexL at e
    split at e
    · cases h with
      | lst h1 _ => exact tyL h1
    · cases e
  · unfold pIndexL at e
    split at e
    · obtain ⟨hz, e⟩ := gd_inv e
      rw [Bool.and_eq_true] at hz
      obtain ⟨j, e1, rfl⟩ := Option.map_eq_some_iff.mp e
      obtain ⟨z, h3, h4, h5⟩ := idxD_some e1
      cases h2 with
      | cons r s =>
        cases s
        have hd := h.dp
        cases h with
        | lst h1 _ => exact ⟨_, _, _, _, j, z, rfl, rfl, hd, r.dp, hz.1, hz.2, h3, h4, h5, q _ H [] (.at (.int _))⟩
    · cases e
def pCountL (a : PyData) (ds : List PyData) : Option PyData := match a, ds with
  | .list zs, [.int k] => (match asInts zs with
    | some ns => some (.int (ns.count k : Nat))
    | none => none)
  | _, _ => none
end
end Vv

set_option Elab.async false
set_option linter.all false
set_option maxRecDepth 100000
set_option autoImplicit false
set_option maxHeartbeats 4000000
/-! The box of a law: numbers drawn from the script. -/
namespace Vv
open PySem PySem.Spec PyProof.Rows L2
structure Bw where
  cells : List Int
  acc : Int
  seed : Int
def tailB (b : Bw) : Int × Bw :=
  ((b.seed * 48271 + 17) % 2147483629 * 4611686014132420609 + ((b.seed * 48271 + 17) % 2147483629 * 69621 + 5) % 2147483587 * 2147483647 + (((b.seed * 48271 + 17) % 2147483629 * 69621 + 5) % 2147483587 * 40692 + 3) % 2147483563,
    { b with seed := (((b.seed * 48271 + 17) % 2147483629 * 69621 + 5) % 2147483587 * 40692 + 3) % 2147483563 })
def sizeB (c : Int) : Int := if c ≥ 0 then 2 * c else -2 * c - 1
def loadB (b : Bw) : Int × Bw := match b.cells with
  | [] => tailB b
  | c :: cs => if sizeB c ≥ 1000000000000000000 then (sizeB c, { b with cells := cs }) else tailB { b with cells := cs, seed := (b.seed * 69621 + sizeB c * 48271 + 11) % 2147483647 }
def preB (b : Bw) (m : Int) : Bw := if b.acc < m then { (loadB b).2 with acc := (loadB b).1 } else b
def drawB (b : Bw) (m : Int) : Int × Bw := ((preB b m).acc % m, { preB b m with acc := (preB b m).acc / m })
/-- a box as it may stand -/
structure Bw.Ok (b : Bw) : Prop where
  few : b.cells.length ≤ 63
  a0 : 0 ≤ b.acc
  s0 : 0 ≤ b.seed
  s1 : b.seed < 2147483647
theorem tailB_ok {b : Bw} (h : b.Ok) : 0 ≤ (tailB b).1 ∧ (tailB b).2.Ok := by
  have h1 := Int.emod_nonneg (b.seed * 48271 + 17) (b := 2147483629) (by decide)
  have h2 := Int.emod_nonneg ((b.seed * 48271 + 17) % 2147483629 * 69621 + 5) (b := 2147483587) (by decide)
  have h3 := Int.emod_nonneg (((b.seed * 48271 + 17) % 2147483629 * 69621 + 5) % 2147483587 * 40692 + 3) (b := 2147483563) (by decide)
  have h4 := Int.emod_lt_of_pos (((b.seed * 48271 + 17) % 2147483629 * 69621 + 5) % 2147483587 * 40692 + 3) (b := 2147483563) (by decide)
  refine ⟨?_, h.few, h.a0, h3, Int.lt_trans h4 (by decide)⟩
  show 0 ≤ (b.seed * 48271 + 17) % 2147483629 * 4611686014132420609 + ((b.seed * 48271 + 17) % 2147483629 * 69621 + 5) % 2147483587 * 2147483647 + (((b.seed * 48271 + 17) % 2147483629 * 69621 + 5) % 2147483587 * 40692 + 3) % 2147483563
  omega
theorem sizeB_nn (c : Int) : 0 ≤ sizeB c := by unfold sizeB; split <;> omega
theorem loadB_ok {b : Bw} (h : b.Ok) : 0 ≤ (loadB b).1 ∧ (loadB b).2.Ok := by
  obtain ⟨cells, acc, seed⟩ := b
  cases cells with
  | nil => exact tailB_ok h
  | cons c cs =>
    have hf : cs.length ≤ 63 := Nat.le_of_succ_le h.few
    unfold loadB
    simp only
    split
    · exact ⟨sizeB_nn c, hf, h.a0, h.s0, h.s1⟩
    · exact tailB_ok ⟨hf, h.a0, Int.emod_nonneg _ (by decide), Int.emod_lt_of_pos _ (by decide)⟩
theorem preB_ok {b : Bw} {m : Int} (h : b.Ok) : (preB b m).Ok := by
  unfold preB
  split
  · obtain ⟨h1, h2⟩ := loadB_ok h
    exact ⟨h2.few, h1, h2.s0, h2.s1⟩
  · exact h
theorem drawB_ok {b : Bw} {m : Int} (h : b.Ok) (hm : 0 < m) : 0 ≤ (drawB b m).1 ∧ (drawB b m).1 < m ∧ (drawB b m).2.Ok := by
  have q := preB_ok (m := m) h
  refine ⟨Int.emod_nonneg _ (by omega), Int.emod_lt_of_pos _ hm, q.few, Int.ediv_nonneg q.a0 (by omega), q.s0, q.s1⟩
/-- where it lies -/
structure BX (b : Bw) (H : Hp) (pb pc : Addr) : Prop where
  box : H pb = some (.lst [.ref pc, .int b.acc, .int b.seed])
  cells : H pc = some (.lst (b.cells.map V.int))
  ne : pb ≠ pc
def boxB : Bx Bw where
  rep := fun b H pb FB => ∃ pc, FB = [pb, pc] ∧ BX b H pb pc ∧ b.Ok
  trk := fun {b H p FB} ⟨pc, e, h, _⟩ a ha z => by
    subst e
    rcases List.mem_cons.mp ha with rfl | ha
    · rw [h.box] at z; cases z
    · rw [List.mem_singleton.mp ha, h.cells] at z; cases z
  same := fun {b H H' p FB} ⟨pc, e, h, o⟩ k => by
    subst e
    exact ⟨pc, rfl, ⟨k _ (by simp) _ h.box, k _ (by simp) _ h.cells, h.ne⟩, o⟩
/-- what a draw promises -/
def spLoad : Sp := fun vs H Q _ => ∃ (pb pc : Addr) (b : Bw), vs = [.ref pb] ∧ BX b H pb pc ∧ b.Ok ∧ ∀ H', BX (loadB b).2 H' pb pc → (∀ a, a ≠ pb → a ≠ pc → H' a = H a) → Q (.int (loadB b).1) H'
def spDraw : Sp := fun vs H Q _ => ∃ (pb pc : Addr) (b : Bw) (m : Int), vs = [.ref pb, .int m] ∧ BX b H pb pc ∧ b.Ok ∧ 0 < m ∧ m < 1073741824 ∧ ∀ H', BX (drawB b m).2 H' pb pc → (∀ a, a ≠ pb → a ≠ pc → H' a = H a) → Q (.int (drawB b m).1) H'
def spBox (K : PySem.W.Frag) : Sp := fun vs H Q _ => ∃ (a : Addr) (ns : List Int), vs = [.ref a] ∧ SqL K H a (ns.map V.int) ∧ ns.length ≤ 63 ∧ ∀ pb pc H', H pb = none → H pc = none → BX ⟨ns, 0, 4711 + ns.length⟩ H' pb pc → Same H H' → Q (.ref pb) H'
def F_draw : FF Bw := fun rs b => match rs with
  | [.box, .d (.int m)] => gd (decide (0 < m) && decide (m < 1073741824)) (some (.d (.int (drawB b m).1), true, (drawB b m).2))
  | _ => none
theorem BX.set {b : Bw} {H : Hp} {pb pc : Addr} {a s : Int} {b' : Bw} (h : BX b H pb pc) (e : b' = { b with acc := a, seed := s }) : BX b' (upd H pb (.lst [.ref pc, .int a, .int s])) pb pc := by
  subst e
  exact ⟨upd_same, by rw [upd_ne (Ne.symm h.ne)]; exact h.cells, h.ne⟩
theorem draw_fnV {K : PySem.W.Frag} (vs : List V) (H : Hp) (Q : VK) (E : XK) (q : FnV K boxB 2 F_draw vs H Q E) : spDraw vs H Q E := by
  obtain ⟨pb, FB, rs, b, G, r, fr, b', hl, hR, hB, hG, e, k⟩ := q
  unfold F_draw at e
  split at e
  case h_2 => cases e
  rename_i m
  obtain ⟨hz, e⟩ := gd_inv e
  rw [Bool.and_eq_true] at hz
  have h1 := of_decide_eq_true hz.1
  have h2 := of_decide_eq_true hz.2
  cases e
  cases hR with
  | cons r1 s1 =>
    cases s1 with
    | cons r2 s2 =>
      cases s2
      obtain ⟨rfl, rfl⟩ := r1
      obtain ⟨rfl, rfl⟩ := rp_int r2
      obtain ⟨pc, rfl, hb, ho⟩ := hB
      refine ⟨pb, pc, b, m, rfl, hb, ho, h1, h2, fun H' hb' ks => k _ H' [] ?_⟩
      have keep : ∀ a o, H a = some o → a ∉ [pb, pc] → H' a = some o := fun a o e n => by
        rw [ks a (fun z => n (by simp [z])) (fun z => n (by simp [z]))]; exact e
      refine ⟨.int _, ⟨pc, rfl, hb', (drawB_ok ho h1).2.2⟩, keep, fun a z => ?_, ⟨fun a xs e => keep a _ e fun ha => ?_, fun a o u e => keep a _ e fun ha => ?_⟩, fun _ => ⟨List.nodup_nil, fun a ha => (nomatch ha)⟩, fun a ha => (nomatch ha)⟩
      · by_cases e1 : a = pb
        · subst e1; rw [hb'.box] at z; cases z
        · by_cases e2 : a = pc
          · subst e2; rw [hb'.cells] at z; cases z
          · rw [← ks a e1 e2]; exact z
      · rcases List.mem_cons.mp ha with rfl | ha
        · rw [hb.box] at e; cases e
        · rw [List.mem_singleton.mp ha, hb.cells] at e; cases e
      · rcases List.mem_cons.mp ha with rfl | ha
        · rw [hb.box] at e; cases e
        · rw [List.mem_singleton.mp ha, hb.cells] at e; cases e
end Vv
/-! ### recursion: as deep as is needed -/
namespace Vv
open PySem PySem.Spec PyProof.Rows L2
def itF {β : Type} (N : Nat) (f : FF β → SF β) : Nat → FF β
  | 0 => fun _ _ => none
  | n + 1 => runF N (f (itF N f n))
theorem fd_none {β : Type} {B : Bx β} {P : Program} {w : World} {K : PySem.W.Frag} {mg : Str → Option Value} {base : Heap} {x qual : Str} {params : Arguments} {body : List Stmt} {scope : Scope} {kws : List (Str × V)} {f : Addr} {fd : FuncData} {N ps : List Str} {k n : Nat}
  (F : FunD K x qual params body scope [] kws f fd) (S : FnScope N ps scope) (hm : mg x = some (.ref f)) (hb : Binds K fd ps []) : Fd P w K mg base B x (k + 1) n (fun _ _ => none) :=
  ⟨f, fd, ps, hm, F.kp, hb, F.ok S (fun vs H Q E h => by obtain ⟨_, _, _, _, _, _, _, _, _, _, _, _, e, _⟩ := h; cases e)
    fun cdv A outer s H vs Q E hr h => by obtain ⟨_, _, _, _, _, _, _, _, _, _, _, _, e, _⟩ := h; cases e⟩
theorem fd_it {β : Type} {B : Bx β} {P : Program} {w : World} {K : PySem.W.Frag} {mg : Str → Option Value} {base : Heap} {x qual : Str} {params : Arguments} {body : List Stmt} {scope : Scope} {kws : List (Str × V)} {f : Addr} {fd : FuncData} {N ps : List Str} {l n m : Nat} {fb : FF β → SF β}
  (F : FunD K x qual params body scope [] kws f fd) (S : FnScope N ps scope) (hm : mg x = some (.ref f)) (hb : Binds K fd ps [])
  (st : ∀ (k : Nat) (G : FF β), Fd P w K mg base B x (l + k) n G → Fd P w K mg base B x (l + k + 1) n (runF m (fb G))) : ∀ d : Nat, Fd P w K mg base B x (l + d + 1) n (itF m fb d)
  | 0 => fd_none F S hm hb
  | d + 1 => by
    have h := st (d + 1) _ (by simpa [Nat.add_assoc] using fd_it F S hm hb st d)
    exact h
end Vv
/-! ### the law: its box made, its body, its answer -/
namespace Vv
open PySem PySem.Spec PyProof.Rows L2
def spLaw (K : PySem.W.Frag) : Sp := fun vs H Q _ => ∃ (a : Addr) (ns : List Int), vs = [.ref a] ∧ SqL K H a (ns.map V.int) ∧ ns.length ≤ 63 ∧ ∀ H', Q (.bl true) H'
def lawS (n : Nat) (b : Bw) : S Bw := ⟨none :: some (.box, true) :: List.replicate n none, b⟩
theorem law_end {K : PySem.W.Frag} {n : Nat} {σ : L2.St} {H : Hp} {f : SF Bw} {pb pc : Addr} {b : Bw} {D : Ends} (hl : σ.length = n + 2) (h1 : σ[1]? = some (some (.ref pb))) (hb : BX b H pb pc) (ok : b.Ok)
    (plain : ∃ fr s, f (lawS n b) = some (.rt (.d (.bool true)) fr s)) (hQ : ∀ H', D.rt (.bl true) H') : tS K boxB f D σ H := by
  obtain ⟨fr, s, e⟩ := plain
  have key : ∀ (i : Nat) (r : R) (o : Bool), (lawS n b).sl[i]? = some (some (r, o)) → i = 1 ∧ r = .box := fun i r o e => by
    match i, e with
    | 1, e => cases e; exact ⟨rfl, rfl⟩
    | i + 2, e =>
      have e : (List.replicate n (none : Sl))[i]? = some (some (r, o)) := e
      rw [List.getElem?_replicate] at e
      split at e <;> cases e
  refine ⟨⟨pb, [pb, pc], [], H, [], []⟩, lawS n b, fun _ => [], ⟨by rw [hl]; simp [lawS], fun i r o e => ?_, fun i r e => ⟨List.nodup_nil, fun a ha => (nomatch ha)⟩, fun _ _ _ _ _ _ _ _ a ha => (nomatch ha), fun _ _ _ _ a ha => (nomatch ha), fun _ _ _ _ a ha => (nomatch ha), ⟨pc, rfl, hb, ok⟩, fun a ha => (nomatch ha), fun a ha => (nomatch ha), fun _ z => z⟩, _, e, fun x F H' r => ?_⟩
  · obtain ⟨rfl, rfl⟩ := key i r o e
    exact ⟨_, h1, rfl, rfl⟩
  · obtain ⟨rfl, _⟩ := rp_bl (show Rp K H' x (.bool true) F from r.rr)
    exact hQ H'
end Vv

set_option Elab.async false
set_option linter.all false
set_option maxRecDepth 100000
set_option autoImplicit false
set_option maxHeartbeats 4000000
namespace Vv
open PySem PySem.Spec PyProof.Rows L2
variable {β : Type}
section
variable {X : Cx} {B : Bx β} {m m' : List Nat} {mu mu' : Bool}
theorem xc {e : Expr} {f : EF β} (h : VE X B e f m mu) (a : m = m') (b : mu = mu') : VE X B e f m' mu' := a ▸ b ▸ h
theorem ac {e : List Expr} {f : AF β} (h : VA X B e f m mu) (a : m = m') (b : mu = mu') : VA X B e f m' mu' := a ▸ b ▸ h
theorem tc {e : Expr} {f : TF β} (h : VT X B e f m mu) (a : m = m') (b : mu = mu') : VT X B e f m' mu' := a ▸ b ▸ h
theorem wc {e : Expr} {f : TF β} (h : VW X B e f m mu) (a : m = m') (b : mu = mu') : VW X B e f m' mu' := a ▸ b ▸ h
theorem ic {e tg : Expr} {f : IF β} (h : VI X B tg e f m mu) (a : m = m') (b : mu = mu') : VI X B tg e f m' mu' := a ▸ b ▸ h
end
/-! ### name = [..] where the names are not yet put together -/
section
variable {X : Cx} {B : Bx β} {pos : Pos}
theorem sSetC' {i : Nat} {y : Str} {py : Pos} {elt tg iter : Expr} {ifs : List Expr} {scope : Scope} {own : List (Str × Nat)} {pos spos : Pos} {mI m2 m3 m : List Nat} {muI mc me mu : Bool} {p : Pat} {fi : IF β} {fc : TF β} {fe : EF β} (hc : X.calm = true) (hN : X.N.Nodup) (hy : X.N[i]? = some y) (hyl : X.env.scope.names.lookup y = some .local)
    (hsw : swapsWith (.ListComp elt [⟨tg, iter, ifs, 0⟩] scope pos) (some (.Name y py)) spos.line X.env = pure true) (hi : VI X B tg iter fi mI muI) (ok : BlkOk X.N X.env.scope scope own) (hix : ∀ j ∈ p.ix, j ∈ own.map (·.2))
    (hg : ∀ (s : Shared) (H : Hp) (C : Addr) (cl : List (Str × Addr)) (fp : List Addr), PG (X.blk s H scope (compEnvC scope cl C X.env) fp) tg (gP X.K p)) (ht : ∀ (s : Shared) (H : Hp) (C : Addr) (cl : List (Str × Addr)) (fp : List Addr), PTs (X.blk s H scope (compEnvC scope cl C X.env) fp) ifs (tT X.K B fc m2 mc))
    (he : ∀ (s : Shared) (H : Hp) (C : Addr) (cl : List (Str × Addr)) (fp : List Addr), VE (X.blk s H scope (compEnvC scope cl C X.env) fp) B elt fe m3 me) (em : mI ++ (m2 ++ m3) = m) (eu : (mc || me) = mu) (hs : ∀ x, foldedSetIterable iter X.env x = pure x := by intro _; rfl) :
    VS X B (.Assign [.Name y py] (.ListComp elt [⟨tg, iter, ifs, 0⟩] scope pos) spos) (fAsg m (.nm i) (fComp mI (own.map (·.2)) p mu fi fc fe)) := by
  subst em
  subst eu
  exact sSetC hc hN hy hyl hsw hi ok hix hg ht he hs
/-! ### name += value: numbers and words -/
end
def pAddI (a b : PyData) : Option PyData := match a, b with
  | .int i, .int j => some (.int (i + j))
  | .str x, .str y => gd (decide (x.length + y.length ≤ sizeLine)) (some (.str (x ++ y)))
  | _, _ => none
def rAddI : R2 := fun x y H Q => rI0 (fun i j => .int (i + j)) x y H Q ∨ rAddS x y H Q
theorem op_iadd {X : Cx} : OpR X (inplaceOp .Add) rAddI := iop_add.or iop_add_str
theorem ok_addI {K : PySem.W.Frag} : Prim2 K rAddI pAddI false := by
  intro H x y a b F G d Q ha hb e q
  unfold pAddI at e
  split at e
  · cases e
    obtain ⟨rfl, rfl⟩ := rp_int ha
    obtain ⟨rfl, rfl⟩ := rp_int hb
    exact .inl ⟨_, _, rfl, rfl, q _ H [] (.at (.int _))⟩
  · obtain ⟨hz, e⟩ := gd_inv e
    cases e
    obtain ⟨rfl, rfl⟩ := rp_str ha
    obtain ⟨rfl, rfl⟩ := rp_str hb
    exact .inr ⟨_, _, rfl, rfl, of_decide_eq_true hz, q _ H [] (.at (.str _))⟩
  · cases e
/-! ### a[i], b[j] = x, y : immutable values -/
section
variable {X : Cx} {B : Bx β} {pos : Pos}
theorem st_con {i : Nat} {pl : PF β} {fk : EF β} {m0 m1 : List Nat} {d : PyData} {x : V} (hi : im d = true) (D : Ends) (σ : L2.St) (H : Hp) (hx : Rp X.K H x d []) (q : tS X.K B (fSetI i [] pl fk (fC d)) D σ H) : gSub (tP X.K B i pl m0) (tE X.K B fk m1 false) rSetL x σ H D.nx := by
  obtain ⟨g, st, fp, rel, v, fr, st', e, k⟩ := setI_con (o := .Constant .none 0 ⟨0,0,0,0⟩) (k := .Constant .none 0 ⟨0,0,0,0⟩) (e := .Constant .none 0 ⟨0,0,0,0⟩) (X := X) (B := B) (mu := false) D σ H q
  cases e
  refine k x [] fp H ⟨rel, fun i r o e => ⟨⟨r, e⟩, fun _ ha => ha⟩, fun _ _ e _ _ _ => e, fun _ e => e, .refl H, fun c hc => ?_, .cons (fun _ h => (nomatch h)) List.Pairwise.nil, fun _ => ⟨rfl, rfl, fun _ _ e _ _ => e⟩⟩
  have : c = ⟨x, .d d, true, []⟩ := by simpa using hc
  subst this
  exact ⟨hx, fun _ => ⟨List.nodup_nil, fun _ _ _ _ a ha => (nomatch ha), fun a ha => (nomatch ha)⟩, fun _ _ _ _ a ha => (nomatch ha), fun a ha => (nomatch ha), fun a ha => (nomatch ha)⟩
def fSw (i1 : Nat) (p1 : PF β) (k1 : EF β) (i2 : Nat) (p2 : PF β) (k2 : EF β) (fa : AF β) : SF β := fun st => bA (fa st) fun vs s0 => match vs with
  | [(.d d1, _), (.d d2, _)] => gd (im d1 && im d2) (bO (fSetI i1 [] p1 k1 (fC d1) s0) (fSetI i2 [] p2 k2 (fC d2)))
  | _ => none
theorem fSetI_nx {i : Nat} {m : List Nat} {pl : PF β} {fk fe : EF β} {st : S β} {o : Out β} (e0 : fSetI i m pl fk fe st = some o) : ∃ s, o = .nx s := by
  obtain ⟨v, fr, s0, e1, e0⟩ := bE_inv e0
  obtain ⟨p, s1, e2, e0⟩ := bP_inv e0
  obtain ⟨kv, frk, s2, e3, e0⟩ := bE_inv e0
  obtain ⟨es, rb, e4, e0⟩ := bK_inv e0
  split at e0
  · split at e0
    · split at e0
      · cases e0; exact ⟨_, rfl⟩
      · cases e0
    · cases e0
  · cases e0
theorem sSw {o1 k1 o2 k2 a b : Expr} {i1 i2 : Nat} {p1 p2 : PF β} {f1 f2 : EF β} {m1 n1 m2 n2 m : List Nat} {mu : Bool} {fa : AF β} {q1 q2 pt pt2 : Pos} {kt kt2 : Nat} (hc : X.calm = true) (ho1 : VP X B o1 i1 p1 m1) (hk1 : VE X B k1 f1 n1 false) (ho2 : VP X B o2 i2 p2 m2) (hk2 : VE X B k2 f2 n2 false) (ha : VA X B [a, b] fa m mu)
    (hs : swapsWithSole [.Tuple [.Subscript o1 k1 q1, .Subscript o2 k2 q2] kt pt] (.Tuple [a, b] kt2 pt2) pos.line X.env = pure false := by rfl) (hw : swappedStores [.Tuple [.Subscript o1 k1 q1, .Subscript o2 k2 q2] kt pt] (.Tuple [a, b] kt2 pt2) X.env = pure none := by rfl)
    (h1 : (assignEach [.Tuple [.Subscript o1 k1 q1, .Subscript o2 k2 q2] kt pt] X.env).map (·.2) = [assign (.Tuple [.Subscript o1 k1 q1, .Subscript o2 k2 q2] kt pt) X.env] := by rfl)
    (ha1 : ∀ v, assign (.Subscript o1 k1 q1) X.env v = (do
      let ov ← holding [v] (eval o1 X.env)
      let iv ← holding [v, ov] (eval k1 X.env)
      standAt q1
      holding [v, ov, iv] (setItem ov iv v)
      release [v, ov, iv] []) := by intro _; rfl)
    (ha2 : ∀ v, assign (.Subscript o2 k2 q2) X.env v = (do
      let ov ← holding [v] (eval o2 X.env)
      let iv ← holding [v, ov] (eval k2 X.env)
      standAt q2
      holding [v, ov, iv] (setItem ov iv v)
      release [v, ov, iv] []) := by intro _; rfl)
    (hn : (assignEach [.Subscript o1 k1 q1, .Subscript o2 k2 q2] X.env).length = 2 := by rfl) (hst : (assignEach [.Subscript o1 k1 q1, .Subscript o2 k2 q2] X.env).findIdx? (·.1) = none := by rfl)
    (hs1 : (assignEach [.Subscript o1 k1 q1, .Subscript o2 k2 q2] X.env).map (·.2) = assign (.Subscript o1 k1 q1) X.env :: (assignEach [.Subscript o2 k2 q2] X.env).map (·.2) := by rfl)
    (hs2 : (assignEach [.Subscript o2 k2 q2] X.env).map (·.2) = assign (.Subscript o2 k2 q2) X.env :: (assignEach [] X.env).map (·.2) := by rfl) :
    VS X B (.Assign [.Tuple [.Subscript o1 k1 q1, .Subscript o2 k2 q2] kt pt] (.Tuple [a, b] kt2 pt2) pos) (fSw i1 p1 f1 i2 p2 f2 fa) := by
  refine PS_con (ps_asg (pe_tup ha) (pg_tup hc (pgs_cons (pg_sub ho1 hk1 set_list ha1) (pgs_cons (pg_sub ho2 hk2 set_list ha2) pgs_nil hs2) hs1) hn hst) hs hw h1) fun D σ H q => ?_
  obtain ⟨g, st, fp, rel, o, e0, q⟩ := q
  obtain ⟨vs, s0, e1, e0⟩ := bA_inv e0
  split at e0
  case h_2 => cases e0
  rename_i d1 fr1 d2 fr2
  obtain ⟨hz, e0⟩ := gd_inv e0
  rw [Bool.and_eq_true] at hz
  obtain ⟨s1, e2, e3⟩ : ∃ s1, fSetI i1 [] p1 f1 (fC d1) s0 = some (.nx s1) ∧ fSetI i2 [] p2 f2 (fC d2) s1 = some o := by
    cases h : fSetI i1 [] p1 f1 (fC d1) s0 with
    | none => rw [h] at e0; cases e0
    | some o1 =>
      obtain ⟨s1, rfl⟩ := fSetI_nx h
      rw [h] at e0
      exact ⟨s1, rfl, e0⟩
  obtain ⟨s2, rfl⟩ := fSetI_nx e3
  refine ⟨g, st, fp, rel, _, s0, e1, fun cs fp1 H1 r1 hc => ?_⟩
  match cs, hc, r1 with
  | [⟨x1, .d d1', fr1', F1⟩, ⟨x2, .d d2', fr2', F2⟩], hc, r1 =>
    injection hc with hc1 hc2
    injection hc2 with hc2 _
    injection hc1 with hc1 _
    injection hc2 with hc2 _
    injection hc1 with hc1
    injection hc2 with hc2
    subst hc1
    subst hc2
    have w1 := (r1.each _ List.mem_cons_self).rr
    have w2 := (r1.each _ (List.mem_cons_of_mem _ List.mem_cons_self)).rr
    have z1 : F1 = [] := w1.im hz.1
    have z2 : F2 = [] := w2.im hz.2
    have w1 : Rp X.K H1 x1 d1' [] := by rw [← z1]; exact w1
    have w2 : Rp X.K H1 x2 d2' [] := by rw [← z2]; exact w2
    refine ⟨(by show 2 ≤ sizeLine; decide), fun p hp => ⟨p, [x1, x2], rfl, .of upd_same, rfl, x1, [x2], rfl, ?_⟩⟩
    have sm := same_upd (o := .tup [x1, x2]) hp
    have v1 : Rp X.K (upd H1 p (.tup [x1, x2])) x1 d1' [] := w1.move (.same sm) _ _ _ fun a ha => (nomatch ha)
    have v2 : Rp X.K (upd H1 p (.tup [x1, x2])) x2 d2' [] := w2.move (.same sm) _ _ _ fun a ha => (nomatch ha)
    have ex1 : Ext g st fp H s0 fp1 (upd H1 p (.tup [x1, x2])) := r1.ext.trans ⟨fun a o e _ _ _ => sm a o e, fun a o => .inl o, fun a z => sm.free z, .same sm⟩
    refine st_con hz.1 { D with nx := fun σ' H' => gCons (gSub (tP X.K B i2 p2 m2) (tE X.K B f2 n2 false) rSetL) gNil [x2] σ' H' D.nx } σ _ v1 ⟨g, s0, fp1, r1.rel.same sm, _, e2, fun σ' fp' H' rel' ext' => ?_⟩
    refine ⟨x2, [], rfl, ?_⟩
    have := st_con (m0 := m2) (m1 := n2) hz.2 { D with nx := fun σ' H' => gNil [] σ' H' D.nx } σ' H' (v2.move ext'.tt _ _ _ fun a ha => (nomatch ha)) ⟨g, s1, fp', rel', _, e3, fun σ2 fp2 H2 rel2 ext2 => ⟨rfl, q σ2 fp2 H2 rel2 (ex1.trans (ext'.trans ext2))⟩⟩
    exact this
end
end Vv

set_option Elab.async false
set_option linter.all false
set_option maxRecDepth 100000
set_option autoImplicit false
set_option maxHeartbeats 4000000
/-! the functions at work: equations for simp -/
namespace Vv
open PySem PySem.Spec PyProof.Rows L2
variable {β : Type}
@[simp] theorem fSq_ap (f h : SF β) (st : S β) : fSq f h st = bO (f st) h := rfl
@[simp] theorem fPass_ap (st : S β) : fPass st = some (.nx st) := rfl
@[simp] theorem fBrk_ap (st : S β) : fBrk st = some (.bk st) := rfl
@[simp] theorem fCnt_ap (st : S β) : fCnt st = some (.ct st) := rfl
@[simp] theorem fNo_ap (st : S β) : fNo st = none := rfl
@[simp] theorem fRet_ap (f : EF β) (st : S β) : fRet f st = bE (f st) fun v fr s => some (.rt v fr s) := rfl
@[simp] theorem fRetN_ap (st : S β) : fRetN st = some (.rt (.d .none) true st) := rfl
@[simp] theorem fEx_ap (f : EF β) (st : S β) : fEx f st = bE (f st) fun _ _ s => some (.nx s) := rfl
@[simp] theorem fIfS_ap (c : TF β) (f h : SF β) (st : S β) : fIfS c f h st = bT (c st) fun b s => if b then f s else h s := rfl
@[simp] theorem fVar_ap (i : Nat) (sl : List Sl) (w : β) : fVar i ⟨sl, w⟩ = match sl[i]? with
  | some (some (r, _)) => some (r, imR r, ⟨sl, w⟩)
  | _ => none := rfl
@[simp] theorem fC_ap (d : PyData) (st : S β) : fC d st = some (.d d, true, st) := rfl
@[simp] theorem fN_ap (st : S β) : fN st = some ([], st) := rfl
@[simp] theorem fCo_ap (mu : Bool) (f : EF β) (r : AF β) (st : S β) : fCo mu f r st = bE (f st) fun v fr s => bA (r s) fun vs s2 => gd (!mu || fr) (some ((v, fr) :: vs, s2)) := rfl
@[simp] theorem fPr_ap (p : List PyData → Option PyData) (nt : Bool) (f : AF β) (st : S β) : fPr p nt f st = bA (f st) fun vs s => match toDs vs with
  | some ds => match p ds with
    | some d => some (.d d, frOf nt d, s)
    | none => none
  | none => none := rfl
@[simp] theorem f2_ap (p : PyData → PyData → Option PyData) (nt mu : Bool) (f h : EF β) (st : S β) : f2 p nt mu f h st = bE (f st) fun v fr s => bE (h s) fun w _ s2 => gd (!mu || fr) (ap2 p nt v w s2) := rfl
@[simp] theorem f1_ap (p : PyData → Option PyData) (nt : Bool) (f : EF β) (st : S β) : f1 p nt f st = bE (f st) fun v _ s => ap1 p nt v s := rfl
@[simp] theorem ap1_d (p : PyData → Option PyData) (nt : Bool) (a : PyData) (s : S β) : ap1 p nt (.d a) s = match p a with
    | some d => some (.d d, frOf nt d, s)
    | none => none := rfl
@[simp] theorem ap2_d (p : PyData → PyData → Option PyData) (nt : Bool) (a b : PyData) (s : S β) : ap2 p nt (.d a) (.d b) s = match p a b with
    | some d => some (.d d, frOf nt d, s)
    | none => none := rfl
@[simp] theorem fB_ap (f : EF β) (st : S β) : fB f st = bE (f st) fun v _ s => match v with
  | .d (.bool b) => some (b, s)
  | _ => none := rfl
@[simp] theorem fTr_ap (f : EF β) (st : S β) : fTr f st = bE (f st) fun v _ s => match v with
  | .d x => match truD x with
    | some b => some (b, s)
    | none => none
  | .box => none := rfl
@[simp] theorem fAsg_ap (m : List Nat) (p : Pat) (f : EF β) (st : S β) : fAsg m p f st = bE (f st) fun v fr s => match bindP p v fr (if fr then s else frzS m s) with
  | some s => some (.nx s)
  | none => none := rfl
@[simp] theorem fPar_ap (is m : List Nat) (fa : AF β) (st : S β) : fPar is m fa st = bA (fa st) fun vs s => gd (decide (is.length = vs.length)) (some (.nx (setAll is vs (if vs.all (·.2) then s else frzS m s)))) := rfl
theorem fFor_ap (m : List Nat) (p : Pat) (i : IF β) (b : SF β) (st : S β) : fFor m p i b st = bI (i st) fun ds fr s => fFl p b ds (if fr then s else frzS m s) := rfl
theorem fWhile_ap (c : TF β) (b : SF β) (st : S β) : fWhile c b st = fWh c b fuel st := rfl
@[simp] theorem iSq_ap (f : EF β) (st : S β) : iSq f st = bE (f st) fun v fr s => match v with
  | .d (.list ds) => some (ds, fr, s)
  | .d (.tuple ds) => some (ds, fr, s)
  | _ => none := rfl
@[simp] theorem iR1_ap (f : AF β) (st : S β) : iR1 f st = bA (f st) fun vs s => match toDs vs with
  | some [.int n] => gd (rgB n) (some (rgI 0 n.toNat, true, s))
  | _ => none := rfl
@[simp] theorem iR2_ap (f : AF β) (st : S β) : iR2 f st = bA (f st) fun vs s => match toDs vs with
  | some [.int a, .int b] => gd (rgB a && rgB b) (some (rgI a (b - a).toNat, true, s))
  | _ => none := rfl
theorem fComp_ap (m vs : List Nat) (p : Pat) (mu : Bool) (fi : IF β) (fc : TF β) (fe : EF β) (st : S β) : fComp m vs p mu fi fc fe st = bI (fi st) fun ds fr s => gd (!mu || fr) (bA (fLc vs p mu fc fe ds (if fr then s else frzS m s)) fun r s' => match toDs r with
  | some es => gd (decide (r.length ≤ sizeLine)) (some (.d (.list es), r.all (·.2), if mu then s' else ⟨s.sl, s'.w⟩))
  | none => none) := rfl
@[simp] theorem fYes_ap (st : S β) : fYes st = some (true, st) := rfl
@[simp] theorem fCall_ap (F : FF β) (fa : AF β) (st : S β) : fCall F fa st = bA (fa st) fun vs s => match F (vs.map (·.1)) s.w with
  | some (r, fr, b') => some (r, fr || imR r, ⟨s.sl, b'⟩)
  | none => none := rfl
@[simp] theorem pl0_ap (i : Nat) (st : S β) : pl0 i st = match look i none st with
  | some _ => some (none, st)
  | none => none := rfl
@[simp] theorem pl1_ap (i : Nat) (f : EF β) (st : S β) : pl1 i f st = match look0 i st with
  | some _ => bE (f st) fun v _ s => match v, look0 i s with
    | .d (.int k), some (ds, _) => (match ixN ds.length k with
      | some j => (match look i (some j) s with
        | some _ => some (some j, s)
        | none => none)
      | none => none)
    | _, _ => none
  | none => none := rfl
@[simp] theorem look_none (i : Nat) (s : S β) : look i none s = look0 i s := rfl
@[simp] theorem look_some (i j : Nat) (s : S β) : look i (some j) s = look1 i j s := rfl
@[simp] theorem look0_ap (i : Nat) (sl : List Sl) (w : β) : look0 i ⟨sl, w⟩ = match sl[i]? with
  | some (some (.d (.list es), true)) => some (es, fun v => v)
  | _ => none := rfl
@[simp] theorem look1_ap (i j : Nat) (sl : List Sl) (w : β) : look1 i j ⟨sl, w⟩ = match sl[i]? with
  | some (some (.d (.list ds), true)) => (match ds[j]? with
    | some (.list es) => some (es, fun v => .list (ds.set j v))
    | _ => none)
  | _ => none := rfl
@[simp] theorem fApp_ap (i : Nat) (m : List Nat) (mu : Bool) (pl : PF β) (fe : EF β) (st : S β) : fApp i m mu pl fe st = bP (pl st) fun p s1 => bE (fe s1) fun v fr s2 => gd (!mu || p.isNone) (bK (look i p s2) fun es rb => match v with
  | .d d => gd (decide (es.length < sizeLine)) (match fin1 i m fr (rb (.list (es ++ [d]))) s2 with
    | some s => some (.nx s)
    | none => none)
  | .box => none) := rfl
@[simp] theorem fExt_ap (i : Nat) (m : List Nat) (mu : Bool) (pl : PF β) (fe : EF β) (st : S β) : fExt i m mu pl fe st = bP (pl st) fun p s1 => bE (fe s1) fun v fr s2 => gd (!mu || p.isNone) (bK (look i p s2) fun es rb => match v with
  | .d (.list ds) => gd (decide (es.length + ds.length ≤ sizeLine)) (match fin1 i m fr (rb (.list (es ++ ds))) s2 with
    | some s => some (.nx s)
    | none => none)
  | _ => none) := rfl
@[simp] theorem fPopAt_ap (i : Nat) (pl : PF β) (fk : EF β) (st : S β) : fPopAt i pl fk st = bP (pl st) fun p s1 => bE (fk s1) fun k _ s => bK (look i p s) fun es rb => match k with
  | .d (.int z) => gd (decide (-(2 ^ 63) ≤ z ∧ z < 2 ^ 63)) (match ixN es.length z with
    | some j => match es[j]? with
      | some d => some (.d d, true, setS i (.d (rb (.list (es.eraseIdx j)))) true s)
      | none => none
    | none => none)
  | _ => none := rfl
@[simp] theorem fSetI_ap (i : Nat) (m : List Nat) (pl : PF β) (fk fe : EF β) (st : S β) : fSetI i m pl fk fe st = bE (fe st) fun v fr s0 => bP (pl s0) fun p s1 => bE (fk s1) fun k _ s2 => bK (look i p s2) fun es rb => match k, v with
  | .d (.int z), .d d => match ixN es.length z with
    | some j => match fin1 i m fr (rb (.list (es.set j d))) s2 with
      | some s => some (.nx s)
      | none => none
    | none => none
  | _, _ => none := rfl
@[simp] theorem fSl_ap (f : EF β) (l h : OF β) (st : S β) : fSl f l h st = bE (f st) fun v _ s => bOp (l s) fun lo s2 => bOp (h s2) fun hi s3 => match v with
  | .d a => (match pSl a lo hi with
    | some d => some (.d d, frOf true d, s3)
    | none => none)
  | .box => none := rfl
@[simp] theorem fTup_ap (fa : AF β) (st : S β) : fTup fa st = bA (fa st) fun vs s => match toDs vs with
  | some ds => gd (decide (vs.length ≤ sizeLine)) (some (.d (.tuple ds), vs.all (·.2), s))
  | none => none := rfl
@[simp] theorem fLst_ap (fa : AF β) (st : S β) : fLst fa st = bA (fa st) fun vs s => match toDs vs with
  | some ds => gd (decide (vs.length ≤ sizeLine)) (some (.d (.list ds), vs.all (·.2), s))
  | none => none := rfl
@[simp] theorem fin1_t (i : Nat) (m : List Nat) (v : PyData) (s : S β) : fin1 i m true v s = some (setS i (.d v) true s) := rfl
@[simp] theorem fin1_f (i : Nat) (m : List Nat) (v : PyData) (s : S β) : fin1 i m false v s = gd (!m.contains i) (some (setS i (.d v) false (frzS m s))) := rfl
@[simp] theorem setS_ap (i : Nat) (v : R) (o : Bool) (sl : List Sl) (w : β) : setS i v o ⟨sl, w⟩ = ⟨sl.set i (some (v, o)), w⟩ := rfl
@[simp] theorem setAll_nil (vs : List (R × Bool)) (s : S β) : setAll [] vs s = s := by cases vs <;> rfl
@[simp] theorem setAll_cons (i : Nat) (is : List Nat) (v : R) (fr : Bool) (vs : List (R × Bool)) (s : S β) : setAll (i :: is) ((v, fr) :: vs) s = setAll is vs (setS i v fr s) := rfl
@[simp] theorem frzS_ap (m : List Nat) (sl : List Sl) (w : β) : frzS m ⟨sl, w⟩ = ⟨frz m 0 sl, w⟩ := rfl
@[simp] theorem frz_nil (m : List Nat) (i : Nat) : frz m i [] = [] := rfl
@[simp] theorem frz_cons (m : List Nat) (i : Nat) (s : Sl) (r : List Sl) : frz m i (s :: r) = (if m.contains i then unown s else s) :: frz m (i + 1) r := rfl
@[simp] theorem unown_some (r : R) (o : Bool) : unown (some (r, o)) = some (r, false) := rfl
@[simp] theorem unown_none : unown none = none := rfl
@[simp] theorem wipeS_ap (vs : List Nat) (sl : List Sl) (w : β) : wipeS vs ⟨sl, w⟩ = ⟨wipeL sl vs, w⟩ := rfl
@[simp] theorem back_t (vs : List Nat) (s s3 : S β) : back true vs s s3 = wipeS vs s3 := rfl
@[simp] theorem back_f (vs : List Nat) (sl : List Sl) (w : β) (s3 : S β) : back false vs ⟨sl, w⟩ s3 = ⟨sl, s3.w⟩ := rfl
@[simp] theorem bindP_nm (i : Nat) (v : R) (fr : Bool) (st : S β) : bindP (.nm i) v fr st = some (setS i v (fr || imR v) st) := by rw [bindP]
@[simp] theorem bindP_tp (ps : List Pat) (ds : List PyData) (fr : Bool) (st : S β) : bindP (.tp ps) (.d (.tuple ds)) fr st = bindPs ps ds fr st := by rw [bindP]
@[simp] theorem bindPs_nil (fr : Bool) (st : S β) : bindPs [] [] fr st = some st := by rw [bindPs]
@[simp] theorem bindPs_cons (p : Pat) (ps : List Pat) (d : PyData) (ds : List PyData) (fr : Bool) (st : S β) : bindPs (p :: ps) (d :: ds) fr st = match bindP p (.d d) fr st with
    | some s => bindPs ps ds fr s
    | none => none := by rw [bindPs] <;> rfl
@[simp] theorem toDs_nil : toDs [] = some [] := rfl
@[simp] theorem toDs_cons (x : PyData) (o : Bool) (r : List (R × Bool)) : toDs ((.d x, o) :: r) = match toDs r with
    | some xs => some (x :: xs)
    | none => none := rfl
@[simp] theorem imR_d (x : PyData) : imR (.d x) = im x := rfl
@[simp] theorem imR_box : imR .box = true := rfl
@[simp] theorem im_none : im .none = true := rfl
@[simp] theorem im_bool (b : Bool) : im (.bool b) = true := rfl
@[simp] theorem im_int (b : Int) : im (.int b) = true := rfl
@[simp] theorem im_str (b : Str) : im (.str b) = true := rfl
@[simp] theorem im_list (b : List PyData) : im (.list b) = false := rfl
@[simp] theorem im_tuple (b : List PyData) : im (.tuple b) = imA b := rfl
@[simp] theorem imA_nil : imA [] = true := rfl
@[simp] theorem imA_cons (x : PyData) (b : List PyData) : imA (x :: b) = (im x && imA b) := rfl
@[simp] theorem im1_list (b : List PyData) : im1 (.list b) = imA b := rfl
@[simp] theorem im1_int (b : Int) : im1 (.int b) = true := rfl
@[simp] theorem im1_tuple (b : List PyData) : im1 (.tuple b) = imA b := rfl
@[simp] theorem im1_str (b : Str) : im1 (.str b) = true := rfl
@[simp] theorem frOf_t (d : PyData) : frOf true d = im1 d := rfl
@[simp] theorem frOf_f (d : PyData) : frOf false d = im d := rfl
@[simp] theorem gd_t {γ : Type} (x : Option γ) : gd true x = x := rfl
@[simp] theorem imA_append (a b : List PyData) : imA (a ++ b) = (imA a && imA b) := by
  induction a with
  | nil => rfl
  | cons x a ih => simp [ih, Bool.and_assoc]
theorem imA_iff {xs : List PyData} : imA xs = true ↔ ∀ x ∈ xs, im x = true := by
  induction xs with
  | nil => simp
  | cons x a ih => simp [ih]
/-- lists of numbers -/
def il (xs : List Nat) : List PyData := xs.map fun (n : Nat) => PyData.int (n : Int)
@[simp] theorem imA_il (xs : List Nat) : imA (il xs) = true := by
  rw [imA_iff]; intro x hx
  obtain ⟨n, _, rfl⟩ := List.mem_map.mp hx
  rfl
@[simp] theorem il_nil : il [] = [] := rfl
@[simp] theorem il_cons (n : Nat) (xs : List Nat) : il (n :: xs) = .int (n : Int) :: il xs := rfl
@[simp] theorem il_append (a b : List Nat) : il (a ++ b) = il a ++ il b := List.map_append
@[simp] theorem il_length (xs : List Nat) : (il xs).length = xs.length := List.length_map ..
theorem il_get (xs : List Nat) (i : Nat) : (il xs)[i]? = xs[i]?.map fun (n : Nat) => PyData.int (n : Int) := List.getElem?_map ..
def ti (xs : List Nat) : PyData := .tuple (il xs)
def li (xs : List Nat) : PyData := .list (il xs)
@[simp] theorem im_ti (xs : List Nat) : im (ti xs) = true := imA_il xs
@[simp] theorem im1_ti (xs : List Nat) : im1 (ti xs) = true := imA_il xs
@[simp] theorem im_li (xs : List Nat) : im (li xs) = false := rfl
@[simp] theorem im1_li (xs : List Nat) : im1 (li xs) = true := imA_il xs
theorem ixNat {n i : Nat} (h : i < n) : ixN n (i : Int) = some i := by
  unfold ixN
  rw [if_pos (by omega), if_pos (by omega)]
  simp
theorem atN {α : Type} (xs : List α) (i : Nat) : L2.atI xs (i : Int) = xs[i]? := by
  unfold L2.atI
  by_cases h : i < xs.length
  · rw [ixNat h]; rfl
  · unfold ixN
    rw [if_pos (by omega), if_neg (by omega), List.getElem?_eq_none (by omega)]
    rfl
/-! ### loops -/
theorem fWh_step (c : TF β) (b : SF β) (n : Nat) (st : S β) : fWh c b (n + 1) st = bT (c st) fun d s => if d then bL (b s) (fWh c b n) else some (.nx s) := rfl
@[simp] theorem fFl_nil (p : Pat) (b : SF β) (st : S β) : fFl p b [] st = some (.nx st) := rfl
theorem fFl_cons (p : Pat) (b : SF β) (d : PyData) (ds : List PyData) (st : S β) : fFl p b (d :: ds) st = match bindP p (.d d) false st with
    | some s => bL (b s) (fFl p b ds)
    | none => none := rfl
/-- one turn of a for -/
def turn (p : Pat) (b : SF β) (d : PyData) (st : S β) : Option (Out β) := match bindP p (.d d) false st with
    | some s => b s
    | none => none
theorem fFl_turn (p : Pat) (b : SF β) (d : PyData) (ds : List PyData) (st : S β) : fFl p b (d :: ds) st = bL (turn p b d st) (fFl p b ds) := by
  rw [fFl_cons]
  unfold turn
  cases bindP p (.d d) false st <;> rfl
theorem fFl_rel {p : Pat} {b : SF β} (P : Nat → S β → Prop) : ∀ (ds : List PyData) (k : Nat) (s : S β), (∀ i d s, ds[i]? = some d → P (k + i) s → ∃ s2, turn p b d s = some (.nx s2) ∧ P (k + i + 1) s2) → P k s → ∃ s', fFl p b ds s = some (.nx s') ∧ P (k + ds.length) s'
  | [], k, s, _, h => ⟨s, rfl, h⟩
  | d :: ds, k, s, H, h => by
    obtain ⟨s2, e, h2⟩ := H 0 d s rfl h
    rw [fFl_turn, e, bL_nx]
    obtain ⟨s', e', h'⟩ := fFl_rel P ds (k + 1) s2 (fun i d' s' e' h' => by
      have := H (i + 1) d' s' (by simpa using e') (by rw [show k + (i + 1) = k + 1 + i by omega]; exact h')
      rw [show k + (i + 1) + 1 = k + 1 + i + 1 by omega] at this
      exact this) h2
    exact ⟨s', e', by rw [List.length_cons, show k + (ds.length + 1) = k + 1 + ds.length by omega]; exact h'⟩
/-- a for over coded things, its state coded by γ -/
theorem fFl_fold {α γ : Type} {p : Pat} {b : SF β} (c : α → PyData) (enc : γ → S β) (step : γ → α → γ) : ∀ (xs : List α) (x : γ), (∀ y ∈ xs, ∀ g, turn p b (c y) (enc g) = some (.nx (enc (step g y)))) → fFl p b (xs.map c) (enc x) = some (.nx (enc (xs.foldl step x)))
  | [], x, _ => rfl
  | y :: ys, x, H => by
    rw [List.map_cons, fFl_turn, H y List.mem_cons_self x, bL_nx, fFl_fold c enc step ys _ fun z hz => H z (List.mem_cons_of_mem _ hz)]
    rfl
theorem fWh_rel {c : TF β} {b : SF β} (P Q : S β → Prop) (μ : S β → Nat) (H : ∀ s, P s → (∃ s1, c s = some (false, s1) ∧ Q s1) ∨ (∃ s1 s2, c s = some (true, s1) ∧ b s1 = some (.nx s2) ∧ P s2 ∧ μ s2 < μ s)) : ∀ (n : Nat) (s : S β), P s → μ s < n → ∃ s', fWh c b n s = some (.nx s') ∧ Q s'
  | 0, s, _, h => absurd h (Nat.not_lt_zero _)
  | n + 1, s, hp, h => by
    rw [fWh_step]
    rcases H s hp with ⟨s1, e, q⟩ | ⟨s1, s2, e, e2, p2, m⟩
    · rw [e]; exact ⟨s1, rfl, q⟩
    · rw [e]
      show ∃ s', bL (b s1) (fWh c b n) = some (.nx s') ∧ Q s'
      rw [e2, bL_nx]
      exact fWh_rel P Q μ H n s2 p2 (by omega)
/-! ### comprehensions -/
/-- one turn of a comprehension -/
def turnE (vs : List Nat) (p : Pat) (fe : EF β) (d : PyData) (s : S β) : Option (R × Bool × S β) := match bindP p (.d d) false (wipeS vs s) with
  | some s1 => fe s1
  | none => none
def rw3 : Option (R × Bool × S β) → Option (R × Bool × β)
  | some (v, fr, s) => some (v, fr, s.w)
  | none => none
theorem rw3_some {x : Option (R × Bool × S β)} {v : R} {fr : Bool} {w : β} (h : rw3 x = some (v, fr, w)) : ∃ s3, x = some (v, fr, s3) ∧ s3.w = w := by
  match x, h with
  | some (a, b, c), h => cases h; exact ⟨c, rfl, rfl⟩
@[simp] theorem rw3_ap (v : R) (fr : Bool) (s : S β) : rw3 (some (v, fr, s)) = some (v, fr, s.w) := rfl
theorem fLc_map {α : Type} {vs : List Nat} {p : Pat} {fe : EF β} (c g : α → PyData) (fr : α → Bool) {sl : List Sl} {w : β} : ∀ (xs : List α), (∀ x ∈ xs, ∃ s3, turnE vs p fe (c x) ⟨sl, w⟩ = some (.d (g x), fr x, s3) ∧ s3.w = w) →
    fLc vs p false fYes fe (xs.map c) ⟨sl, w⟩ = some (xs.map (fun x => (.d (g x), fr x)), ⟨sl, w⟩)
  | [], _ => rfl
  | x :: xs, H => by
    obtain ⟨s3, e, hw⟩ := H x List.mem_cons_self
    have ih := fLc_map c g fr xs fun y hy => H y (List.mem_cons_of_mem _ hy)
    rw [List.map_cons, fLc]
    unfold turnE at e
    cases e1 : bindP p (.d (c x)) false (wipeS vs ⟨sl, w⟩) with
    | none => rw [e1] at e; cases e
    | some s1 =>
      rw [e1] at e
      have e : fe s1 = some (.d (g x), fr x, s3) := e
      show bT (fYes s1) _ = _
      rw [fYes_ap]
      show bE (fe s1) _ = _
      rw [e]
      show gd (!false || fr x) (bA (fLc vs p false fYes fe (xs.map c) ⟨sl, s3.w⟩) _) = _
      rw [hw, ih]
      rfl
/-- with a test -/
theorem fLc_filter {α : Type} {vs : List Nat} {p : Pat} {fc : TF β} {fe : EF β} (c g : α → PyData) (k : α → Bool) (fr : α → Bool) {sl : List Sl} {w : β} : ∀ (xs : List α), (∀ x ∈ xs, ∃ s1 s2, bindP p (.d (c x)) false (wipeS vs ⟨sl, w⟩) = some s1 ∧ fc s1 = some (k x, s2) ∧ s2.w = w ∧ (k x = true → ∃ s3, fe s2 = some (.d (g x), fr x, s3) ∧ s3.w = w)) →
    fLc vs p false fc fe (xs.map c) ⟨sl, w⟩ = some ((xs.filter k).map (fun x => (.d (g x), fr x)), ⟨sl, w⟩)
  | [], _ => rfl
  | x :: xs, H => by
    obtain ⟨s1, s2, e1, e2, hw2, h3⟩ := H x List.mem_cons_self
    have ih := fLc_filter (fc := fc) c g k fr xs fun y hy => H y (List.mem_cons_of_mem _ hy)
    rw [List.map_cons, fLc, e1]
    show bT (fc s1) _ = _
    rw [e2]
    cases hk : k x with
    | false =>
      show fLc vs p false fc fe (xs.map c) ⟨sl, s2.w⟩ = _
      rw [hw2, ih, List.filter_cons_of_neg (by rw [hk]; decide)]
    | true =>
      obtain ⟨s3, e3, hw3⟩ := h3 hk
      show bE (fe s2) _ = _
      rw [e3]
      show gd (!false || fr x) (bA (fLc vs p false fc fe (xs.map c) ⟨sl, s3.w⟩) _) = _
      rw [hw3, ih, List.filter_cons_of_pos hk]
      rfl
theorem toDs_map {α : Type} (g : α → PyData) (fr : α → Bool) : ∀ xs : List α, toDs (xs.map fun x => (R.d (g x), fr x)) = some (xs.map g)
  | [] => rfl
  | x :: xs => by rw [List.map_cons, toDs_cons, toDs_map g fr xs]; rfl
theorem all_map {α : Type} (g : α → PyData) (fr : α → Bool) (xs : List α) : (xs.map fun x => (R.d (g x), fr x)).all (·.2) = xs.all fr := by
  rw [List.all_map]; rfl
theorem comp_map {α : Type} {m vs : List Nat} {p : Pat} {fi : IF β} {fe : EF β} {st : S β} (c g : α → PyData) (fr : α → Bool) {fr0 : Bool} {sl sl0 : List Sl} {w : β} (xs : List α) (hi : fi st = some (xs.map c, fr0, ⟨sl0, w⟩)) (hs : (if fr0 then ⟨sl0, w⟩ else frzS m ⟨sl0, w⟩) = (⟨sl, w⟩ : S β))
    (H : ∀ x ∈ xs, ∃ s3, turnE vs p fe (c x) ⟨sl, w⟩ = some (.d (g x), fr x, s3) ∧ s3.w = w) (hl : xs.length ≤ sizeLine) : fComp m vs p false fi fYes fe st = some (.d (.list (xs.map g)), xs.all fr, ⟨sl0, w⟩) := by
  rw [fComp_ap, hi, bI_some, hs, fLc_map c g fr xs H]
  show gd true (bA (some _) _) = _
  rw [gd_t]
  show (match toDs (xs.map fun x => (R.d (g x), fr x)) with | some es => _ | none => none) = _
  rw [toDs_map]
  show gd (decide ((xs.map fun x => (R.d (g x), fr x)).length ≤ sizeLine)) _ = _
  rw [List.length_map, decide_eq_true hl, gd_t, all_map]
  rfl
theorem comp_filter {α : Type} {m vs : List Nat} {p : Pat} {fi : IF β} {fc : TF β} {fe : EF β} {st : S β} (c g : α → PyData) (k : α → Bool) (fr : α → Bool) {fr0 : Bool} {sl sl0 : List Sl} {w : β} (xs : List α) (hi : fi st = some (xs.map c, fr0, ⟨sl0, w⟩)) (hs : (if fr0 then ⟨sl0, w⟩ else frzS m ⟨sl0, w⟩) = (⟨sl, w⟩ : S β))
    (H : ∀ x ∈ xs, ∃ s1 s2, bindP p (.d (c x)) false (wipeS vs ⟨sl, w⟩) = some s1 ∧ fc s1 = some (k x, s2) ∧ s2.w = w ∧ (k x = true → ∃ s3, fe s2 = some (.d (g x), fr x, s3) ∧ s3.w = w)) (hl : xs.length ≤ sizeLine) : fComp m vs p false fi fc fe st = some (.d (.list ((xs.filter k).map g)), (xs.filter k).all fr, ⟨sl0, w⟩) := by
  rw [fComp_ap, hi, bI_some, hs, fLc_filter c g k fr xs H]
  show gd true (bA (some _) _) = _
  rw [gd_t]
  show (match toDs ((xs.filter k).map fun x => (R.d (g x), fr x)) with | some es => _ | none => none) = _
  rw [toDs_map]
  show gd (decide (((xs.filter k).map fun x => (R.d (g x), fr x)).length ≤ sizeLine)) _ = _
  rw [List.length_map, decide_eq_true (Nat.le_trans (List.length_filter_le _ _) hl), gd_t, all_map]
  rfl
theorem comp_mapT {α : Type} {m vs : List Nat} {p : Pat} {fi : IF β} {fe : EF β} (c g : α → PyData) (fr : α → Bool) {sl : List Sl} {w : β} (xs : List α) (hi : fi ⟨sl, w⟩ = some (xs.map c, true, ⟨sl, w⟩))
    (H : ∀ x ∈ xs, rw3 (turnE vs p fe (c x) ⟨sl, w⟩) = some (.d (g x), fr x, w)) (hl : xs.length ≤ sizeLine) : fComp m vs p false fi fYes fe ⟨sl, w⟩ = some (.d (.list (xs.map g)), xs.all fr, ⟨sl, w⟩) :=
  comp_map c g fr xs hi rfl (fun x hx => rw3_some (H x hx)) hl
theorem comp_mapF {α : Type} {m vs : List Nat} {p : Pat} {fi : IF β} {fe : EF β} (c g : α → PyData) (fr : α → Bool) {sl : List Sl} {w : β} (xs : List α) (hi : fi ⟨sl, w⟩ = some (xs.map c, false, ⟨sl, w⟩))
    (H : ∀ x ∈ xs, rw3 (turnE vs p fe (c x) ⟨frz m 0 sl, w⟩) = some (.d (g x), fr x, w)) (hl : xs.length ≤ sizeLine) : fComp m vs p false fi fYes fe ⟨sl, w⟩ = some (.d (.list (xs.map g)), xs.all fr, ⟨sl, w⟩) :=
  comp_map c g fr xs hi rfl (fun x hx => rw3_some (H x hx)) hl
@[simp] theorem all_t {α : Type} (xs : List α) : xs.all (fun _ => true) = true := by simp
theorem asInts_il : ∀ xs : List Nat, asInts (il xs) = some (xs.map fun (n : Nat) => (n : Int))
  | [] => rfl
  | x :: xs => by rw [il_cons, asInts, asInts_il xs]; rfl
theorem sum_cast (xs : List Nat) : (xs.map fun (n : Nat) => (n : Int)).sum = (xs.sum : Nat) := by
  induction xs with
  | nil => rfl
  | cons x xs ih => simp [ih]
@[simp] theorem truD_list (x : List PyData) : truD (.list x) = some !x.isEmpty := rfl
@[simp] theorem truD_tuple (x : List PyData) : truD (.tuple x) = some !x.isEmpty := rfl
@[simp] theorem truD_bool (x : Bool) : truD (.bool x) = some x := rfl
@[simp] theorem truD_int (x : Int) : truD (.int x) = some (x != 0) := rfl
@[simp] theorem pIdx_list (x : List PyData) (i : Int) : pIdx (.list x) (.int i) = L2.atI x i := rfl
@[simp] theorem pIdx_tuple (x : List PyData) (i : Int) : pIdx (.tuple x) (.int i) = L2.atI x i := rfl
@[simp] theorem pLen_list (x : List PyData) : pLen [.list x] = some (.int x.length) := rfl
@[simp] theorem pLen_tuple (x : List PyData) : pLen [.tuple x] = some (.int x.length) := rfl
@[simp] theorem pList_list (x : List PyData) : pList [.list x] = some (.list x) := rfl
@[simp] theorem pList_tuple (x : List PyData) : pList [.tuple x] = some (.list x) := rfl
@[simp] theorem pTuple_list (x : List PyData) : pTuple [.list x] = some (.tuple x) := rfl
@[simp] theorem pTuple_tuple (x : List PyData) : pTuple [.tuple x] = some (.tuple x) := rfl
@[simp] theorem pAdd_int (i j : Int) : pAdd (.int i) (.int j) = some (.int (i + j)) := rfl
@[simp] theorem pAddI_int (i j : Int) : pAddI (.int i) (.int j) = some (.int (i + j)) := rfl
@[simp] theorem pSub_int (i j : Int) : pSub (.int i) (.int j) = some (.int (i - j)) := rfl
theorem pAdd_list {x y : List PyData} (h : x.length + y.length ≤ sizeLine) : pAdd (.list x) (.list y) = some (.list (x ++ y)) := by
  show gd (decide _) _ = _
  rw [decide_eq_true h]; rfl
theorem pAdd_tuple {x y : List PyData} (h : x.length + y.length ≤ sizeLine) : pAdd (.tuple x) (.tuple y) = some (.tuple (x ++ y)) := by
  show gd (decide _) _ = _
  rw [decide_eq_true h]; rfl
@[simp] theorem pSum_il (xs : List Nat) : pSum [.list (il xs)] = some (.int (xs.sum : Nat)) := by
  show (match asInts (il xs) with | some ns => _ | none => none) = _
  rw [asInts_il]
  show some (PyData.int _) = _
  rw [sum_cast]
theorem map_il {α : Type} (f : α → Nat) (xs : List α) : (xs.map fun x => PyData.int (f x : Nat)) = il (xs.map f) := by
  unfold il; rw [List.map_map]; rfl
@[simp] theorem szl0 : 0 ≤ sizeLine := by decide
@[simp] theorem szl1 : 1 ≤ sizeLine := by decide
@[simp] theorem szl2 : 2 ≤ sizeLine := by decide
@[simp] theorem szl3 : 3 ≤ sizeLine := by decide
@[simp] theorem szl4 : 4 ≤ sizeLine := by decide
@[simp] theorem szl5 : 5 ≤ sizeLine := by decide
@[simp] theorem szl6 : 6 ≤ sizeLine := by decide
@[simp] theorem szl7 : 7 ≤ sizeLine := by decide
@[simp] theorem szl8 : 8 ≤ sizeLine := by decide
@[simp] theorem szl9 : 9 ≤ sizeLine := by decide
@[simp] theorem szl10 : 10 ≤ sizeLine := by decide
@[simp] theorem szl11 : 11 ≤ sizeLine := by decide
@[simp] theorem szl12 : 12 ≤ sizeLine := by decide
theorem le_sum {xs : List Nat} {x : Nat} (h : x ∈ xs) : x ≤ xs.sum := by
  induction xs with
  | nil => cases h
  | cons y ys ih =>
    rw [List.sum_cons]
    rcases List.mem_cons.mp h with rfl | h
    · omega
    · have := ih h; omega
theorem fuel_eq : fuel = 1000000 := by unfold fuel; rfl
end Vv
/-! ### equality of values without bools -/
namespace Vv
open PySem PySem.Spec PyProof.Rows L2
mutual
def nob : PyData → Bool
  | .none => true
  | .bool _ => false
  | .int _ => true
  | .str x => PyData.strOk x
  | .tuple xs => nobA xs
  | .list xs => nobA xs
  | .dict _ => false
def nobA : List PyData → Bool
  | [] => true
  | x :: xs => nob x && nobA xs
end
theorem nobA_iff {xs : List PyData} : nobA xs = true ↔ ∀ x ∈ xs, nob x = true := by
  induction xs with
  | nil => simp [nobA]
  | cons x a ih => simp [nobA, ih]
mutual
theorem eqv_iff : ∀ (d d' : PyData), nob d = true → nob d' = true → (PyData.eqv d d' = true ↔ d = d')
  | .none, d', h, h' => by cases d' <;> simp [PyData.eqv, nob] at h' ⊢
  | .bool _, d', h, h' => by simp [nob] at h
  | .int _, d', h, h' => by cases d' <;> simp [PyData.eqv, nob] at h' ⊢
  | .str _, d', h, h' => by cases d' <;> simp [PyData.eqv, nob] at h' ⊢
  | .tuple xs, d', h, h' => by
    cases d' <;> simp [PyData.eqv, nob] at h h' ⊢
    exact eqvAll_iff xs _ h h'
  | .list xs, d', h, h' => by
    cases d' <;> simp [PyData.eqv, nob] at h h' ⊢
    exact eqvAll_iff xs _ h h'
  | .dict _, d', h, h' => by simp [nob] at h
theorem eqvAll_iff : ∀ (xs ys : List PyData), nobA xs = true → nobA ys = true → (PyData.eqvAll xs ys = true ↔ xs = ys)
  | [], ys, h, h' => by cases ys <;> simp [PyData.eqvAll]
  | x :: xs, ys, h, h' => by
    cases ys with
    | nil => simp [PyData.eqvAll]
    | cons y ys =>
      simp [nobA] at h h'
      simp [PyData.eqvAll, eqv_iff x y h.1 h'.1, eqvAll_iff xs ys h.2 h'.2]
end
mutual
theorem nob_lay : ∀ d : PyData, nob d = true → d.canLay0 = true
  | .none, _ => by simp [PyData.canLay0]
  | .bool _, _ => by simp [PyData.canLay0]
  | .int _, _ => by simp [PyData.canLay0]
  | .str x, h => by rw [nob] at h; simp [PyData.canLay0, h]
  | .tuple xs, h => by rw [nob] at h; simp [PyData.canLay0, nobA_lay xs h]
  | .list xs, h => by rw [nob] at h; simp [PyData.canLay0, nobA_lay xs h]
  | .dict _, h => by simp [nob] at h
theorem nobA_lay : ∀ d : List PyData, nobA d = true → PyData.canLayAll0 d = true
  | [], _ => by simp [PyData.canLayAll0]
  | x :: xs, h => by
    simp [nobA] at h
    simp [PyData.canLayAll0, nob_lay x h.1, nobA_lay xs h.2]
end
/-- values that == tells apart -/
structure Cmpb (d : PyData) : Prop where
  nob : nob d = true
  deep : d.depth ≤ 64
theorem Cmpb.shaped {d : PyData} (h : Cmpb d) : SeqAt.shaped d = true := by
  unfold SeqAt.shaped
  rw [nob_lay d h.nob, decide_eq_true h.deep]; rfl
theorem pEq_c {α : Type} [DecidableEq α] (c : α → PyData) (inj : ∀ x y, c x = c y → x = y) (hc : ∀ x, Cmpb (c x)) (x y : α) : pEq (c x) (c y) = some (.bool (decide (x = y))) := by
  unfold pEq
  rw [(hc x).shaped, (hc y).shaped]
  have : PyData.eqv (c x) (c y) = decide (x = y) := by
    rw [Bool.eq_iff_iff, eqv_iff _ _ (hc x).nob (hc y).nob, decide_eq_true_iff]
    exact ⟨inj x y, fun h => by rw [h]⟩
  rw [this]; rfl
theorem pNe_c {α : Type} [DecidableEq α] (c : α → PyData) (inj : ∀ x y, c x = c y → x = y) (hc : ∀ x, Cmpb (c x)) (x y : α) : pNe (c x) (c y) = some (.bool (!decide (x = y))) := by
  have := pEq_c c inj hc x y
  unfold pEq at this
  unfold pNe
  rw [(hc x).shaped, (hc y).shaped] at this ⊢
  have : PyData.eqv (c x) (c y) = decide (x = y) := by
    injection this with this
    injection this
  rw [this]; rfl
theorem depth_map {α : Type} (c : α → PyData) (n : Nat) (h : ∀ x, (c x).depth ≤ n) : ∀ xs : List α, PyData.depthAll (xs.map c) ≤ n
  | [] => by simp [PyData.depthAll]
  | x :: xs => by
    rw [List.map_cons, PyData.depthAll]
    exact Nat.max_le.mpr ⟨h x, depth_map c n h xs⟩
theorem nob_map {α : Type} (c : α → PyData) (h : ∀ x, nob (c x) = true) : ∀ xs : List α, nobA (xs.map c) = true
  | [] => by simp [nobA]
  | x :: xs => by
    rw [List.map_cons, nobA, h x, nob_map c h xs]; rfl
theorem map_inj' {α : Type} {c : α → PyData} (inj : ∀ x y, c x = c y → x = y) : ∀ {xs ys : List α}, xs.map c = ys.map c → xs = ys
  | [], [], _ => rfl
  | [], _ :: _, h => by cases h
  | _ :: _, [], h => by cases h
  | x :: xs, y :: ys, h => by
    rw [List.map_cons, List.map_cons] at h
    injection h with h1 h2
    rw [inj x y h1, map_inj' inj h2]
def ni (n : Nat) : PyData := .int (n : Int)
theorem ni_inj (x y : Nat) (h : ni x = ni y) : x = y := by
  injection h with h; omega
theorem il_inj {x y : List Nat} (h : il x = il y) : x = y := map_inj' (c := ni) ni_inj h
theorem ti_inj (x y : List Nat) (h : ti x = ti y) : x = y := by injection h with h; exact il_inj h
theorem li_inj (x y : List Nat) (h : li x = li y) : x = y := by injection h with h; exact il_inj h
theorem ni_depth (n : Nat) : (ni n).depth ≤ 0 := by simp [ni, PyData.depth]
theorem ti_depth (x : List Nat) : (ti x).depth ≤ 1 := by
  unfold ti
  rw [PyData.depth]
  exact Nat.succ_le_succ (depth_map ni 0 ni_depth x)
theorem li_depth (x : List Nat) : (li x).depth ≤ 1 := by
  unfold li
  rw [PyData.depth]
  exact Nat.succ_le_succ (depth_map ni 0 ni_depth x)
theorem ti_cmpb (x : List Nat) : Cmpb (ti x) := ⟨by unfold ti; rw [nob]; exact nob_map ni (fun _ => rfl) x, Nat.le_trans (ti_depth x) (by decide)⟩
theorem li_cmpb (x : List Nat) : Cmpb (li x) := ⟨by unfold li; rw [nob]; exact nob_map ni (fun _ => rfl) x, Nat.le_trans (li_depth x) (by decide)⟩
@[simp] theorem pEq_ti (x y : List Nat) : pEq (ti x) (ti y) = some (.bool (decide (x = y))) := pEq_c ti ti_inj ti_cmpb x y
@[simp] theorem pEq_li (x y : List Nat) : pEq (li x) (li y) = some (.bool (decide (x = y))) := pEq_c li li_inj li_cmpb x y
@[simp] theorem pNe_ti (x y : List Nat) : pNe (ti x) (ti y) = some (.bool (!decide (x = y))) := pNe_c ti ti_inj ti_cmpb x y
@[simp] theorem pNe_li (x y : List Nat) : pNe (li x) (li y) = some (.bool (!decide (x = y))) := pNe_c li li_inj li_cmpb x y
@[simp] theorem pNe_li_nil (x : List Nat) : pNe (.list (il x)) (.list []) = some (.bool (!decide (x = []))) := pNe_li x []
@[simp] theorem pEq_int (i j : Int) : pEq (.int i) (.int j) = some (.bool (i == j)) := rfl
@[simp] theorem pEq_bool (i j : Bool) : pEq (.bool i) (.bool j) = some (.bool (i == j)) := by cases i <;> cases j <;> rfl
@[simp] theorem pNe_int (i j : Int) : pNe (.int i) (.int j) = some (.bool (!(i == j))) := rfl
@[simp] theorem pNe_bool (i j : Bool) : pNe (.bool i) (.bool j) = some (.bool (!(i == j))) := by cases i <;> cases j <;> rfl
@[simp] theorem pLt_int (i j : Int) : pLt (.int i) (.int j) = some (.bool (decide (i < j))) := rfl
@[simp] theorem pLe_int (i j : Int) : pLe (.int i) (.int j) = some (.bool (decide (i ≤ j))) := rfl
@[simp] theorem pGt_int (i j : Int) : pGt (.int i) (.int j) = some (.bool (decide (j < i))) := rfl
@[simp] theorem pGe_int (i j : Int) : pGe (.int i) (.int j) = some (.bool (decide (j ≤ i))) := rfl
end Vv
/-! ### slices, membership, places -/
namespace Vv
open PySem PySem.Spec PyProof.Rows L2
theorem take_all' {α : Type} (ds : List α) (n : Nat) (h : ds.length ≤ n) : ds.take n = ds := List.take_of_length_le h
theorem cut_nat {α : Type} (ds : List α) (a b : Nat) : (ds.drop (min a ds.length)).take (min b ds.length - min a ds.length) = (ds.drop a).take (b - a) := by
  by_cases h : a ≤ ds.length
  · rw [Nat.min_eq_left h]
    by_cases h2 : b ≤ ds.length
    · rw [Nat.min_eq_left h2]
    · rw [Nat.min_eq_right (by omega), take_all' _ _ (by simp), take_all' _ _ (by simp; omega)]
  · rw [Nat.min_eq_right (by omega : ds.length ≤ a), List.drop_eq_nil_of_le (Nat.le_refl _), List.drop_eq_nil_of_le (by omega : ds.length ≤ a)]; simp
theorem cutD_nat (ds : List PyData) (a b : Nat) : cutD ds (some (a : Int)) (some (b : Int)) = (ds.drop a).take (b - a) := by
  unfold cutD
  rw [HT.sIx_nat, HT.sIx_nat, cut_nat]
theorem cutD_from (ds : List PyData) (a : Nat) : cutD ds (some (a : Int)) none = ds.drop a := by
  unfold cutD
  rw [HT.sIx_nat, HT.sIx_none]
  by_cases h : a ≤ ds.length
  · rw [Nat.min_eq_left h, take_all' _ _ (by simp)]
  · rw [Nat.min_eq_right (by omega : ds.length ≤ a), List.drop_eq_nil_of_le (Nat.le_refl _), List.drop_eq_nil_of_le (by omega : ds.length ≤ a)]; simp
theorem cutD_to (ds : List PyData) (b : Nat) : cutD ds none (some (b : Int)) = ds.take b := by
  unfold cutD
  rw [HT.sIx_nat, HT.sIx_none, List.drop_zero, Nat.sub_zero]
  by_cases h : b ≤ ds.length
  · rw [Nat.min_eq_left h]
  · rw [Nat.min_eq_right (by omega : ds.length ≤ b), take_all' _ _ (Nat.le_refl _), take_all' _ _ (by omega)]
theorem cutD_neg1 (ds : List PyData) : cutD ds none (some (-1)) = ds.dropLast := by
  unfold cutD
  rw [HT.sIx_none]
  have : HT.sIx ds.length ds.length (some (-1)) = ds.length - 1 := by
    show (if (-1 : Int) < 0 then (-1 + (ds.length : Int)).toNat else min ((-1 : Int)).toNat ds.length) = _
    rw [if_pos (by decide)]; omega
  rw [this, List.dropLast_eq_take]; simp
@[simp] theorem il_drop (xs : List Nat) (a : Nat) : (il xs).drop a = il (xs.drop a) := by unfold il; rw [List.map_drop]
@[simp] theorem il_take (xs : List Nat) (a : Nat) : (il xs).take a = il (xs.take a) := by unfold il; rw [List.map_take]
theorem cut_take {α : Type} (ds : List α) (a s : Nat) : (ds.drop a).take (a + s - a) = (ds.drop a).take s := by rw [Nat.add_sub_cancel_left]
@[simp] theorem bOp_s {β γ : Type} (o : Option Int) (s : S β) (k : Option Int → S β → Option γ) : bOp (some (o, s)) k = k o s := rfl
@[simp] theorem oN_ap {β : Type} (st : S β) : oN st = some (none, st) := rfl
@[simp] theorem oS_ap {β : Type} (f : EF β) (st : S β) : oS f st = bE (f st) fun v _ s => match v with
  | .d (.int i) => some (some i, s)
  | _ => none := rfl
@[simp] theorem pSl_list (ds : List PyData) (a b : Option Int) : pSl (.list ds) a b = some (.list (cutD ds a b)) := rfl
@[simp] theorem pSl_tuple (ds : List PyData) (a b : Option Int) : pSl (.tuple ds) a b = some (.tuple (cutD ds a b)) := rfl
@[simp] theorem fMt_ap {β : Type} (p : PyData → List PyData → Option PyData) (nt mu : Bool) (fo : EF β) (fa : AF β) (st : S β) : fMt p nt mu fo fa st = bE (fo st) fun v fr s => bA (fa s) fun vs s2 => gd (!mu || fr) (match v, toDs vs with
  | .d a, some ds => (match p a ds with
    | some d => some (.d d, frOf nt d, s2)
    | none => none)
  | _, _ => none) := rfl
@[simp] theorem il_at {xs : List Nat} {p : Nat} (h : p < (il xs).length) : (il xs)[p] = .int ((xs[p]'(by simpa using h) : Nat) : Int) := List.getElem_map (f := fun (n : Nat) => PyData.int (n : Int)) (h := h)
@[simp] theorem getLast?_il (x : List Nat) : (il x).getLast? = x.getLast?.map fun (n : Nat) => PyData.int (n : Int) := by
  unfold il; rw [List.getLast?_map]
theorem ni_nob (n : Nat) : nob (ni n) = true := rfl
theorem eqv_ni (x y : Nat) : PyData.eqv (.int (x : Int)) (.int (y : Int)) = decide (x = y) := by
  show PyData.eqv (ni x) (ni y) = _
  rw [Bool.eq_iff_iff, eqv_iff (ni x) (ni y) rfl rfl, decide_eq_true_iff]
  exact ⟨ni_inj x y, fun h => by rw [h]⟩
theorem int_shaped (i : Int) : SeqAt.shaped (.int i) = true := by
  unfold SeqAt.shaped; simp [PyData.canLay0, PyData.depth]
theorem any_il (x : Nat) (xs : List Nat) : ((il xs).any fun z => PyData.eqv z (.int (x : Int))) = decide (x ∈ xs) := by
  induction xs with
  | nil => rfl
  | cons y ys ih =>
    rw [il_cons, List.any_cons, eqv_ni, ih]
    by_cases h : y = x
    · simp [h]
    · have h' : ¬ x = y := fun z => h z.symm
      simp [h, h']
@[simp] theorem pIn_il (neg : Bool) (x : Nat) (xs : List Nat) : pIn neg (.int (x : Int)) (.list (il xs)) = some (.bool (if neg then !decide (x ∈ xs) else decide (x ∈ xs))) := by
  show gd (SeqAt.shaped (.int (x : Int)) && SeqAt.shaped (li xs)) _ = _
  rw [int_shaped, (li_cmpb xs).shaped, any_il]; rfl
def idxN (x : Nat) : List Nat → Nat
  | [] => 0
  | y :: ys => if y = x then 0 else idxN x ys + 1
theorem idxD_il (x : Nat) : ∀ xs : List Nat, x ∈ xs → idxD (.int (x : Int)) (il xs) = some (idxN x xs)
  | [], h => by cases h
  | y :: ys, h => by
    rw [il_cons, idxD, eqv_ni, idxN]
    by_cases e : y = x
    · simp [e]
    · rcases List.mem_cons.mp h with rfl | h
      · exact absurd rfl e
      · simp [e, idxD_il x ys h]
theorem idxN_lt {x : Nat} : ∀ {xs : List Nat}, x ∈ xs → idxN x xs < xs.length
  | y :: ys, h => by
    rw [idxN]
    by_cases e : y = x
    · simp [e]
    · rcases List.mem_cons.mp h with rfl | h
      · exact absurd rfl e
      · have := idxN_lt h
        simp [e]; exact this
theorem pIndexL_il {x : Nat} {xs : List Nat} (h : x ∈ xs) : pIndexL (.list (il xs)) [.int (x : Int)] = some (.int (idxN x xs : Nat)) := by
  show gd (SeqAt.shaped (li xs) && SeqAt.shaped (.int (x : Int))) ((idxD (.int (x : Int)) (il xs)).map fun j => PyData.int (j : Nat)) = _
  rw [int_shaped, (li_cmpb xs).shaped, idxD_il x xs h]; rfl
theorem min_cast : ∀ (xs : List Nat), xs ≠ [] → ∃ m, m ∈ xs ∧ (xs.map fun (n : Nat) => (n : Int)).min? = some (m : Int)
  | [], h => absurd rfl h
  | [x], _ => ⟨x, by simp, rfl⟩
  | x :: y :: ys, _ => by
    obtain ⟨m, h1, h2⟩ := min_cast (y :: ys) (by simp)
    rw [List.map_cons, List.min?_cons, h2]
    show ∃ m', m' ∈ x :: y :: ys ∧ some (min (x : Int) (m : Int)) = some (m' : Int)
    by_cases h : x ≤ m
    · exact ⟨x, by simp, by rw [Int.min_eq_left (by omega)]⟩
    · exact ⟨m, List.mem_cons_of_mem _ h1, by rw [Int.min_eq_right (by omega)]⟩
theorem pMin_il {xs : List Nat} (h : xs ≠ []) : ∃ m, m ∈ xs ∧ pMin [.list (il xs)] = some (.int (m : Nat)) := by
  obtain ⟨m, h1, h2⟩ := min_cast xs h
  refine ⟨m, h1, ?_⟩
  show (match asInts (il xs) with | some ns => (ns.min?.map PyData.int) | none => none) = _
  rw [asInts_il]
  show ((xs.map fun (n : Nat) => (n : Int)).min?.map PyData.int) = _
  rw [h2]; rfl
end Vv

set_option Elab.async false
set_option linter.all false
set_option maxRecDepth 100000
set_option autoImplicit false
set_option maxHeartbeats 4000000
namespace Law
open PySem PySem.Spec PyProof.Rows L2 Vv
abbrev PP : Program := PySem.Challenge.pw_cardstold_k67_whole_clocks_counted
def top (i : Nat) : Stmt := PP.main.body.getD i (.Pass ⟨0, 0, 0, 0⟩)
abbrev FnP (K : PySem.W.Frag) (x : Str) (st : Stmt) (f : Addr) (fd : FuncData) : Prop := FunD K x x (defArgs st) (defBody st) (defScope st) [] [] f fd
structure Free (mg : Str → Option Value) : Prop where
  len : mg "len" = none
  range : mg "range" = none
  tuple : mg "tuple" = none
  list : mg "list" = none
  sorted : mg "sorted" = none
  all : mg "all" = none
  any : mg "any" = none
  sum : mg "sum" = none
  min : mg "min" = none
  max : mg "max" = none
  abs : mg "abs" = none
  int : mg "int" = none
  str : mg "str" = none
  isinstance : mg "isinstance" = none
  enumerate : mg "enumerate" = none
  zip : mg "zip" = none
  set : mg "set" = none
  dict : mg "dict" = none
  reversed : mg "reversed" = none
  bool : mg "bool" = none
/-! ### the box: its three defs -/
section
variable {P : Program} {w : World} {K : PySem.W.Frag} {mg : Str → Option Value} {base : Heap} {f : Addr} {fd : FuncData}
theorem sc_box : FnScope ["script"] ["script"] (defScope (top 8)) := ⟨rfl, rfl, rfl, by decide +kernel, rfl, by decide +kernel, by decide +kernel⟩
theorem sc_load : FnScope ["box", "cells", "cell", "size", "first", "second"] ["box"] (defScope (top 9)) := ⟨rfl, rfl, rfl, by decide +kernel, rfl, by decide +kernel, by decide +kernel⟩
theorem sc_draw : FnScope ["box", "many", "digit"] ["box", "many"] (defScope (top 10)) := ⟨rfl, rfl, rfl, by decide +kernel, rfl, by decide +kernel, by decide +kernel⟩
theorem ok_box (F : FnP K "_law_box" (top 8) f fd) (fr : Free mg) : FnOk P w K mg base CX0 1 f fd ["script"] (spBox K) := by
  refine F.ok sc_box (fun vs H Q E h => ?_) (fun cdv A outer s H vs Q E hr h => ?_)
  · obtain ⟨a, ns, rfl, _⟩ := h
    rfl
  obtain ⟨a, ns, rfl, hS, h63, q⟩ := h
  refine ⟨_, PSs.nox (pss_one (ps_ret (pe_lst (pa_cons (pe_callTy call_list_of rfl fr.list boot_list (pa_cons (pe_slice sl_list (pv 0) po_none (po_some pe_int)) pa_nil))
    (pa_cons pe_int (pa_cons (pe_op op_add pe_int (pe_callB call_len_seq rfl fr.len PySem.boot_len (pa_cons (pv 0) pa_nil))) pa_nil)))))), ?_⟩
  refine ⟨_, rfl, 63, rfl, a, _, rfl, hS, fun p hp => ?_⟩
  refine ⟨p, _, rfl, .inl (.of upd_same), fun l hl => ?_⟩
  have e1 : Same H (upd H p (.lst (cutV (ns.map V.int) none (some 63)))) := same_upd hp
  have e2 := e1.trans (same_upd (o := .lst (cutV (ns.map V.int) none (some 63))) hl)
  have hc : cutV (ns.map V.int) none (some 63) = ns.map V.int := by
    unfold cutV
    have : HT.sIx (ns.map V.int).length (ns.map V.int).length (some ((63 : Nat) : Int)) = (ns.map V.int).length := by
      rw [HT.sIx_nat, List.length_map]; omega
    rw [show (some 63 : Option Int) = some ((63 : Nat) : Int) from rfl, this]
    simp only [HT.sIx]
    rw [Nat.sub_zero, List.drop_zero, List.take_length]
  rw [hc] at e1 e2 hl ⊢
  refine ⟨_, rfl, a, _, rfl, .inl (e2.seq hS), ?_⟩
  refine ⟨_, _, rfl, rfl, ?_⟩
  refine ⟨(by show 3 ≤ sizeLine; decide), fun b hb => ?_⟩
  refine q b l _ (e2.free hb) (e1.free hl) ⟨?_, ?_, ?_⟩ (e2.trans (same_upd hb))
  · rw [upd_same, List.length_map]
  · rw [upd_ne (fun z => by rw [← z, upd_same] at hb; cases hb), upd_same]
  · intro z; rw [z, upd_same] at hb; cases hb
theorem ok_load (F : FnP K "_law_load" (top 9) f fd) (fr : Free mg) : FnOk P w K mg base CX0 1 f fd ["box"] spLoad := by
  refine F.ok sc_load (fun vs H Q E h => ?_) (fun cdv A outer s H vs Q E hr h => ?_)
  · obtain ⟨pb, pc, b, rfl, _⟩ := h
    rfl
  obtain ⟨pb, pc, b, rfl, hb, ho, q⟩ := h
  -- the part behind the cells
  obtain ⟨tl, htl, qtl⟩ : ∃ t : TS, PSs (cxOf CX0 P w K mg base ["box", "cells", "cell", "size", "first", "second"] "_law_load" (defScope (top 9)) f cdv A outer s H E).nox ((defBody (top 9)).drop 2) t ∧
      ∀ (b2 : Bw) (H2 : Hp) (v1 v2 v3 : Option V), BX b2 H2 pb pc → b2.Ok → (∀ a, a ≠ pb → a ≠ pc → H2 a = H a) → tailB b2 = loadB b → t { nx := fun _ H' => Q .non H', rt := Q } [some (.ref pb), v1, v2, v3, none, none] H2 := by
    refine ⟨_, pss_cons (ps_set (i := 4) sc_load.nd rfl (Or.inl rfl) (pe_op op_mod (pe_callTy call_int1 rfl fr.int boot_int (pa_cons (pe_op op_add (pe_op op_mulI (pe_ix ix_list (pv 0) pe_int (fun _ _ => rfl)) pe_int) pe_int) pa_nil)) pe_int))
      (pss_cons (ps_set (i := 5) sc_load.nd rfl (Or.inl rfl) (pe_op op_mod (pe_callTy call_int1 rfl fr.int boot_int (pa_cons (pe_op op_add (pe_op op_mulI (pv 4) pe_int) pe_int) pa_nil)) pe_int))
      (pss_cons (ps_asg (pe_op op_mod (pe_callTy call_int1 rfl fr.int boot_int (pa_cons (pe_op op_add (pe_op op_mulI (pv 5) pe_int) pe_int) pa_nil)) pe_int) (pg_sub (pv 0) pe_int set_list))
      (pss_one (ps_ret (pe_op op_add (pe_op op_add (pe_op op_mulI (pv 4) pe_int) (pe_op op_mulI (pv 5) pe_int)) (pe_ix ix_list (pv 0) pe_int (fun _ _ => rfl))))))), ?_⟩
    intro b2 H2 v1 v2 v3 hb2 ho2 same2 e2
    have z1 := Int.emod_nonneg (b2.seed * 48271 + 17) (b := 2147483629) (by decide)
    have y1 := Int.emod_lt_of_pos (b2.seed * 48271 + 17) (b := 2147483629) (by decide)
    have z2 := Int.emod_nonneg ((b2.seed * 48271 + 17) % 2147483629 * 69621 + 5) (b := 2147483587) (by decide)
    have y2 := Int.emod_lt_of_pos ((b2.seed * 48271 + 17) % 2147483629 * 69621 + 5) (b := 2147483587) (by decide)
    have s0 := ho2.s0
    have s1 := ho2.s1
    have mok : ∀ i j : Int, i.natAbs < 2 ^ 64 → IntMulOk i j := fun i j h => mulB_ok (by unfold mulB; rw [decide_eq_true h]; rfl)
    refine ⟨_, rfl, pb, _, 0 + 2, .int b2.seed, rfl, rfl, .of hb2.box, rfl, ?_⟩
    refine ⟨_, _, rfl, rfl, mok _ _ (by omega), _, _, rfl, rfl, .inl ⟨_, rfl, _, _, rfl, rfl, (by show (0 : Int) < _; decide), ?_⟩⟩
    refine ⟨_, rfl, _, _, rfl, rfl, mok _ _ (by omega), _, _, rfl, rfl, .inl ⟨_, rfl, _, _, rfl, rfl, (by show (0 : Int) < _; decide), ?_⟩⟩
    refine ⟨_, rfl, _, _, rfl, rfl, mok _ _ (by omega), _, _, rfl, rfl, .inl ⟨_, rfl, _, _, rfl, rfl, (by show (0 : Int) < _; decide), ?_⟩⟩
    refine ⟨_, rfl, pb, _, 2, 2, rfl, rfl, hb2.box, rfl, ?_⟩
    refine ⟨_, rfl, _, _, rfl, rfl, mok _ _ (by omega), _, rfl, _, _, rfl, rfl, mok _ _ (by omega), _, _, rfl, rfl, ?_⟩
    refine ⟨_, rfl, pb, _, 2, _, rfl, rfl, .of upd_same, rfl, _, _, rfl, rfl, ?_⟩
    have e3 : (tailB b2).1 = (loadB b).1 := by rw [e2]
    have e4 : (tailB b2).2 = (loadB b).2 := by rw [e2]
    have q2 := q (upd H2 pb (.lst [.ref pc, .int b2.acc, .int (tailB b2).2.seed])) (by rw [← e4]; exact hb2.set rfl) fun a n1 n2 => by rw [upd_ne n1]; exact same2 a n1 n2
    rw [← e3] at q2
    exact q2
  refine ⟨_, PSs.nox (pss_cons (ps_set (i := 1) sc_load.nd rfl (Or.inl rfl) (pe_ix ix_list (pv 0) pe_int (fun _ _ => rfl)))
    (pss_cons (ps_if (pt_cmpR op_gt (pe_callB call_len_seq rfl fr.len PySem.boot_len (pa_cons (pv 1) pa_nil)) pe_int (nomark _))
      (pss_cons (ps_set (i := 2) sc_load.nd rfl (Or.inl rfl) (pe_callTy call_int1 rfl fr.int boot_int (pa_cons (pe_bm PySem.F.plainAttrs_list PySem.F.slot_list_pop PySem.F.type_list_pop mt_popAt (pv 1) (pa_cons pe_int pa_nil)) pa_nil)))
      (pss_cons (ps_set (i := 3) sc_load.nd rfl (Or.inl rfl) (pe_ifExp (pt_cmpR op_ge (pv 2) pe_int (nomark _)) (pe_op op_mulI pe_int (pv 2)) (pe_op op_sub (pe_op op_mulI (pe_un un_neg pe_int) (pv 2)) pe_int)))
      (pss_cons (ps_if (pt_cmpR op_ge (pv 3) pe_int (nomark _)) (pss_one (ps_ret (pv 3))) pss_nil)
      (pss_one (ps_asg (pe_op op_mod (pe_callTy call_int1 rfl fr.int boot_int (pa_cons (pe_op op_add (pe_op op_add (pe_op op_mulI (pe_ix ix_list (pv 0) pe_int (fun _ _ => rfl)) pe_int) (pe_op op_mulI (pv 3) pe_int)) pe_int) pa_nil)) pe_int) (pg_sub (pv 0) pe_int set_list))))))
      pss_nil) htl)), ?_⟩
  have mok : ∀ i j : Int, i.natAbs < 2 ^ 64 → IntMulOk i j := fun i j h => mulB_ok (by unfold mulB; rw [decide_eq_true h]; rfl)
  refine ⟨_, rfl, pb, _, 0, .ref pc, rfl, rfl, .of hb.box, rfl, ?_⟩
  refine ⟨_, rfl, pc, _, rfl, .inl (.of hb.cells), _, _, rfl, rfl, _, rfl, ?_⟩
  obtain ⟨cells, acc, seed⟩ := b
  cases cells with
  | nil =>
    refine ite2 (fun c => ?_) (fun c => ?_)
    · have c' := of_decide_eq_true c
      exact absurd c' (by show ¬ (0 : Int) < ((0 : Nat) : Int); decide)
    · exact qtl _ H _ _ _ hb ho (fun _ _ _ => rfl) rfl
  | cons c cs =>
    have hcell : H pc = some (.lst (.int c :: cs.map V.int)) := hb.cells
    have hf : cs.length ≤ 63 := Nat.le_of_succ_le ho.few
    have hlen : (List.map V.int (c :: cs)).length = cs.length + 1 := by simp
    refine ite2 (fun c' => ?_) (fun c' => ?_)
    · refine ⟨.ref pc, rfl, tyL hcell, pc, _, 0, 0, .int c, rfl, rfl, hcell, by decide, by decide, ?_, rfl, .inl ⟨c, rfl, ?_⟩⟩
      · have e : ixN (V.int c :: cs.map V.int).length 0 = some 0 := by
          unfold ixN
          rw [if_pos (Int.le_refl 0), if_pos (by simp only [List.length_cons]; omega)]
          rfl
        exact (ixN_seq e).1
      have hb1 : BX ⟨cs, acc, seed⟩ (upd H pc (.lst (cs.map V.int))) pb pc := ⟨by rw [upd_ne hb.ne]; exact hb.box, upd_same, hb.ne⟩
      have sm1 : ∀ a, a ≠ pb → a ≠ pc → upd H pc (.lst (cs.map V.int)) a = H a := fun a _ n => upd_ne n
      have key : ∀ z : Int, z = sizeB c → (if decide (z ≥ 1000000000000000000) = true then Q (.int z) (upd H pc (.lst (cs.map V.int)))
          else tl { nx := fun _ H' => Q .non H', rt := Q } [some (.ref pb), some (.ref pc), some (.int c), some (.int z), none, none] (upd (upd H pc (.lst (cs.map V.int))) pb (.lst [.ref pc, .int acc, .int ((seed * 69621 + z * 48271 + 11) % 2147483647)]))) := by
        intro z hz
        subst hz
        refine ite2 (fun k => ?_) (fun k => ?_)
        · have k' := of_decide_eq_true k
          have e : loadB ⟨c :: cs, acc, seed⟩ = (sizeB c, ⟨cs, acc, seed⟩) := by
            show (if sizeB c ≥ 1000000000000000000 then _ else _) = _
            rw [if_pos k']
          have q2 := q _ (by rw [e]; exact hb1) sm1
          rw [e] at q2
          exact q2
        · have k' : ¬ sizeB c ≥ 1000000000000000000 := of_decide_eq_false (Bool.eq_false_iff.mpr k)
          refine qtl ⟨cs, acc, (seed * 69621 + sizeB c * 48271 + 11) % 2147483647⟩ _ _ _ _ (hb1.set rfl) ⟨hf, ho.a0, Int.emod_nonneg _ (by decide), Int.emod_lt_of_pos _ (by decide)⟩ (fun a n1 n2 => by rw [upd_ne n1]; exact sm1 a n1 n2) ?_
          show _ = (if sizeB c ≥ 1000000000000000000 then _ else _)
          rw [if_neg k']
      have s0 : 0 ≤ seed := ho.s0
      have s1 : seed < 2147483647 := ho.s1
      -- the end of the suite, for the size z
      have fin : ∀ z : Int, z = sizeB c → ∃ v, (some (some (V.int z)) : Option (Option V)) = some (some v) ∧ ∃ i j, v = .int i ∧ V.int 1000000000000000000 = .int j ∧ ∃ k, V.bl (decide (j ≤ i)) = .bl k ∧ True := fun z _ => ⟨_, rfl, _, _, rfl, rfl, _, rfl, trivial⟩
      refine ⟨.int c, rfl, _, _, rfl, rfl, _, rfl, ?_⟩
      have go : ∀ z : Int, z = sizeB c → ∃ v, (some (some (V.int z)) : Option (Option V)) = some (some v) ∧ ∃ i j, v = .int i ∧ V.int 1000000000000000000 = .int j ∧ ∃ k, V.bl (decide (j ≤ i)) = .bl k ∧ True := fin
      refine ite2 (fun k => ?_) (fun k => ?_)
      · have k' : (0 : Int) ≤ c := of_decide_eq_true k
        have hz : 2 * c = sizeB c := by unfold sizeB; rw [if_pos k']
        refine ⟨_, rfl, _, _, rfl, rfl, mok _ _ (by decide), ?_⟩
        refine ⟨_, rfl, _, _, rfl, rfl, _, rfl, ?_⟩
        have kk := key _ hz
        refine ite2 (fun k2 => ?_) (fun k2 => ?_)
        · rw [if_pos k2] at kk
          exact ⟨_, rfl, kk⟩
        · rw [if_neg k2] at kk
          refine ⟨_, rfl, pb, _, 2, _, rfl, rfl, .of hb1.box, rfl, _, _, rfl, rfl, mok _ _ (by show seed.natAbs < 2 ^ 64; omega), ?_⟩
          refine ⟨_, rfl, _, _, rfl, rfl, mulB_ok (by unfold mulB; rw [Bool.or_eq_true, Bool.or_eq_true]; exact .inr (.inl (by decide))), _, _, rfl, rfl, _, _, rfl, rfl, .inl ⟨_, rfl, _, _, rfl, rfl, (by show (0 : Int) < _; decide), ?_⟩⟩
          exact ⟨_, rfl, pb, _, 2, 2, rfl, rfl, hb1.box, rfl, kk⟩
      · have k' : ¬ (0 : Int) ≤ c := of_decide_eq_false (Bool.eq_false_iff.mpr k)
        have hz : -2 * c - 1 = sizeB c := by unfold sizeB; rw [if_neg k']
        refine ⟨_, rfl, _, rfl, _, _, rfl, rfl, mok _ _ (by decide), _, _, rfl, rfl, ?_⟩
        refine ⟨_, rfl, _, _, rfl, rfl, _, rfl, ?_⟩
        have kk := key _ hz
        refine ite2 (fun k2 => ?_) (fun k2 => ?_)
        · rw [if_pos k2] at kk
          exact ⟨_, rfl, kk⟩
        · rw [if_neg k2] at kk
          refine ⟨_, rfl, pb, _, 2, _, rfl, rfl, .of hb1.box, rfl, _, _, rfl, rfl, mok _ _ (by show seed.natAbs < 2 ^ 64; omega), ?_⟩
          refine ⟨_, rfl, _, _, rfl, rfl, mulB_ok (by unfold mulB; rw [Bool.or_eq_true, Bool.or_eq_true]; exact .inr (.inl (by decide))), _, _, rfl, rfl, _, _, rfl, rfl, .inl ⟨_, rfl, _, _, rfl, rfl, (by show (0 : Int) < _; decide), ?_⟩⟩
          exact ⟨_, rfl, pb, _, 2, 2, rfl, rfl, hb1.box, rfl, kk⟩
    · exact absurd (decide_eq_true (show (0 : Int) < ((List.map V.int (c :: cs)).length : Int) by rw [hlen]; omega)) c'
theorem ok_draw {g : Addr} {gd' : FuncData} (F : FnP K "_law_draw" (top 10) f fd) (G : FnP K "_law_load" (top 9) g gd') (gG : mg "_law_load" = some (.ref g)) (fr : Free mg) : FnOk P w K mg base CX0 2 f fd ["box", "many"] spDraw := by
  have GL : FnOk P w K mg base CX0 1 g gd' ["box"] spLoad := ok_load G fr
  have bL : Binds K gd' ["box"] [] := G.bindsN fun _ _ _ _ _ _ us hl => match us, hl with | [_], _ => rfl
  refine F.ok sc_draw (fun vs H Q E h => ?_) (fun cdv A outer s H vs Q E hr h => ?_)
  · obtain ⟨pb, pc, b, m, rfl, _⟩ := h
    rfl
  obtain ⟨pb, pc, b, m, rfl, hb, ho, h1, h2, q⟩ := h
  obtain ⟨tl, htl, qtl⟩ : ∃ t : TS, PSs (cxOf CX0 P w K mg base ["box", "many", "digit"] "_law_draw" (defScope (top 10)) f cdv A outer s H E).nox ((defBody (top 10)).drop 1) t ∧
      ∀ (b2 : Bw) (H2 : Hp), BX b2 H2 pb pc → (∀ a, a ≠ pb → a ≠ pc → H2 a = H a) → preB b m = b2 → t { nx := fun _ H' => Q .non H', rt := Q } [some (.ref pb), some (.int m), none] H2 := by
    refine ⟨_, pss_cons (ps_set (i := 2) sc_draw.nd rfl (Or.inl rfl) (pe_op op_mod (pe_callTy call_int1 rfl fr.int boot_int (pa_cons (pe_ix ix_list (pv 0) pe_int (fun _ _ => rfl)) pa_nil)) (pv 1)))
      (pss_cons (ps_asg (pe_op op_fdiv (pe_ix ix_list (pv 0) pe_int (fun _ _ => rfl)) (pv 1)) (pg_sub (pv 0) pe_int set_list))
      (pss_one (ps_ret (pv 2)))), ?_⟩
    intro b2 H2 hb2 same2 e2
    refine ⟨_, rfl, pb, _, 1, .int b2.acc, rfl, rfl, .of hb2.box, rfl, .inl ⟨_, rfl, _, rfl, _, _, rfl, rfl, h1, ?_⟩⟩
    refine ⟨_, rfl, pb, _, 1, .int b2.acc, rfl, rfl, .of hb2.box, rfl, _, rfl, _, _, rfl, rfl, ⟨h1, h2⟩, ?_⟩
    refine ⟨_, rfl, pb, _, 1, 1, rfl, rfl, hb2.box, rfl, _, rfl, ?_⟩
    have e3 : (drawB b m).1 = b2.acc % m := by unfold drawB; rw [e2]
    have q2 := q (upd H2 pb (.lst [.ref pc, .int (b2.acc / m), .int b2.seed])) (by
      have e4 : (drawB b m).2 = { b2 with acc := b2.acc / m } := by unfold drawB; rw [e2]
      rw [e4]; exact hb2.set rfl) fun a n1 n2 => by rw [upd_ne n1]; exact same2 a n1 n2
    rw [e3] at q2
    exact q2
  refine ⟨_, PSs.nox (pss_cons (ps_if (pt_cmpR op_lt (pe_ix ix_list (pv 0) pe_int (fun _ _ => rfl)) (pv 1) (nomark _))
    (pss_one (ps_asg (pe_call GL hr rfl gG G.kp bL .nil pass0 (pa_cons (pv 0) pa_nil)) (pg_sub (pv 0) pe_int set_list))) pss_nil) htl), ?_⟩
  refine ⟨_, rfl, pb, _, 1, .int b.acc, rfl, rfl, .of hb.box, rfl, _, rfl, _, _, rfl, rfl, _, rfl, ?_⟩
  refine ite2 (fun c => ?_) (fun c => ?_)
  · have c' : b.acc < m := of_decide_eq_true c
    refine ⟨_, rfl, pb, pc, b, rfl, hb, ho, fun H' hb' sm => ?_⟩
    refine ⟨_, rfl, pb, _, 1, 1, rfl, rfl, hb'.box, rfl, ?_⟩
    refine qtl { (loadB b).2 with acc := (loadB b).1 } _ (hb'.set rfl) (fun a n1 n2 => by rw [upd_ne n1]; exact sm a n1 n2) ?_
    unfold preB
    rw [if_pos c']
  · have c' : ¬ b.acc < m := of_decide_eq_false (Bool.eq_false_iff.mpr c)
    refine qtl b H hb (fun _ _ _ => rfl) ?_
    unfold preB
    rw [if_neg c']
end
abbrev F__law_draw : FF Bw := F_draw
section
variable {P : Program} {w : World} {K : PySem.W.Frag} {mg : Str → Option Value} {base : Heap} {f : Addr} {fd : FuncData}
theorem ok__law_draw {g : Addr} {gd' : FuncData} (F : FnP K "_law_draw" (top 10) f fd) (gm : mg "_law_draw" = some (.ref f)) (G : FnP K "_law_load" (top 9) g gd') (gG : mg "_law_load" = some (.ref g)) (fr : Free mg) : Fd P w K mg base boxB "_law_draw" 2 2 F__law_draw :=
  ⟨f, fd, _, gm, F.kp, F.bindsN fun _ _ _ _ _ _ us hl => match us, hl with | [_, _], _ => rfl, (ok_draw F G gG fr).imp draw_fnV⟩
end

section
variable {P : Program} {w : World} {K : PySem.W.Frag} {mg : Str → Option Value} {base : Heap} {f : Addr} {fd : FuncData}

def b1_clock_play : SF Bw := fSq (fApp 3 [2] false (pl0 3) (fVar 2)) (fAsg [1, 2] (.nm 2) (fPopAt 1 (pl1 1 (fVar 2)) (fC (.int 0))))
def f_clock_play : SF Bw := fSq (fPar [1, 2, 3] [0, 4] (fCo false (fComp [0] [4] (.nm 4) false (iSq (fVar 0)) (fYes) (fPr pList true (fCo false (fVar 4) (fN)))) (fCo false (fC (.int 0)) (fCo false (fLst (fN)) (fN))))) (fSq (fWhile (fTr (f2 pIdx false false (fVar 1) (fVar 2))) b1_clock_play) (fRet (fPr pTuple false (fCo false (fVar 3) (fN)))))
theorem sc_clock_play : FnScope ["piles", "left", "at", "found", "pile"] ["piles"] (defScope (top 1)) := ⟨rfl, rfl, rfl, by decide +kernel, rfl, by decide +kernel, by decide +kernel⟩
theorem ok_clock_play (F : FnP K "clock_play" (top 1) f fd) (gm : mg "clock_play" = some (.ref f)) (fr : Free mg) : Fd P w K mg base boxB "clock_play" 1 1 (runF 5 f_clock_play) := by
  refine fd_ok F sc_clock_play gm (F.bindsN fun _ _ _ _ _ _ us hl => match us, hl with | [_], _ => rfl) fun cdv A outer s H E hr => ?_
  unfold f_clock_play
  exact sCons (sPar3 (i := 1) (j := 2) (l := 3) (ac (aCons (xc (xComp (mc := false) (me := false) (own := [("pile", 4)]) (p := (.nm 4)) rfl sc_clock_play.nd (ic (iSeq' (xVar (pv 0))) rfl rfl) (blkOk_by (by kernel_rfl)) (by decide) (fun _ _ _ _ _ => pgNm (pg_name (i := 4) sc_clock_play.nd rfl (by first | exact Or.inl rfl | exact Or.inr rfl))) (fun _ _ _ _ _ => tsNil) (fun _ _ _ _ _ => xc (xCallTy ok_list call_list_of rfl fr.list boot_list (ac (aCons (xVar (pv 4)) (aNil)) rfl rfl)) rfl rfl)) rfl rfl) (ac (aCons (xInt) (ac (aCons (xc (xLst (aNil)) rfl rfl) (aNil)) rfl rfl)) rfl rfl)) rfl rfl) (fun ha => ps_par3 (i := 1) (j := 2) (l := 3) (by rfl) sc_clock_play.nd rfl rfl rfl (by decide) (by decide) (by decide) rfl rfl rfl ha (by rfl))) (sCons (sWhile PassesOwn.never (tc (tTru (xc (xIdx (xVar (pv 1)) (xVar (pv 2)) (fun _ _ => rfl)) rfl rfl)) rfl rfl) (sCons (sApp (rpl0 (pv 3)) (xVar (pv 2)) (by rfl) (fun ho ha => pe_bm PySem.F.plainAttrs_list PySem.F.slot_list_append PySem.F.type_list_append mt_append ho ha)) (sOne (sSet (i := 2) sc_clock_play.nd rfl (by first | exact Or.inl rfl | exact Or.inr rfl) (xc (xPopAt (rpl1 (pv 1) (xVar (pv 2)) (fun _ _ => rfl)) (xInt) (by rfl) (fun ho ha => pe_bm PySem.F.plainAttrs_list PySem.F.slot_list_pop PySem.F.type_list_pop mt_popAt ho ha)) rfl rfl))))) (sOne (sRet (xc (xCallTy ok_tuple call_tuple_of rfl fr.tuple boot_tuple (ac (aCons (xVar (pv 3)) (aNil)) rfl rfl)) rfl rfl))))
abbrev F_clock_play : FF Bw := runF 5 f_clock_play

def f_is_won : SF Bw := fRet (f2 pEq false false (fPr pLen false (fCo false (fCall F_clock_play (fCo false (fVar 0) (fN))) (fN))) (fPr pSum false (fCo false (fComp [0] [1] (.nm 1) false (iSq (fVar 0)) (fYes) (fPr pLen false (fCo false (fVar 1) (fN)))) (fN))))
theorem sc_is_won : FnScope ["piles", "pile"] ["piles"] (defScope (top 2)) := ⟨rfl, rfl, rfl, by decide +kernel, rfl, by decide +kernel, by decide +kernel⟩
theorem ok_is_won (F : FnP K "is_won" (top 2) f fd) (gm : mg "is_won" = some (.ref f)) (fr : Free mg) (h_clock_play : Fd P w K mg base boxB "clock_play" 1 1 F_clock_play) : Fd P w K mg base boxB "is_won" 2 1 (runF 2 f_is_won) := by
  refine fd_ok F sc_is_won gm (F.bindsN fun _ _ _ _ _ _ us hl => match us, hl with | [_], _ => rfl) fun cdv A outer s H E hr => ?_
  unfold f_is_won
  exact sOne (sRet (xc (xCmp ok_eq (op_eqD hr.units) (xc (xCallB ok_len call_len rfl fr.len PySem.boot_len (ac (aCons (xc (xCall h_clock_play (hr.mono (by decide)) rfl (ac (aCons (xVar (pv 0)) (aNil)) rfl rfl) (aLenC aLen0)) rfl rfl) (aNil)) rfl rfl)) rfl rfl) (xc (xCallB ok_sum (cr_sum rfl) rfl fr.sum (by decide +kernel) (ac (aCons (xc (xComp (mc := false) (me := false) (own := [("pile", 1)]) (p := (.nm 1)) rfl sc_is_won.nd (ic (iSeq' (xVar (pv 0))) rfl rfl) (blkOk_by (by kernel_rfl)) (by decide) (fun _ _ _ _ _ => pgNm (pg_name (i := 1) sc_is_won.nd rfl (by first | exact Or.inl rfl | exact Or.inr rfl))) (fun _ _ _ _ _ => tsNil) (fun _ _ _ _ _ => xc (xCallB ok_len call_len rfl fr.len PySem.boot_len (ac (aCons (xVar (pv 1)) (aNil)) rfl rfl)) rfl rfl)) rfl rfl) (aNil)) rfl rfl)) rfl rfl) (nomark _)) rfl rfl))
abbrev F_is_won : FF Bw := runF 2 f_is_won

def f_leads : SF Bw := fRet (fPr pTuple false (fCo false (fComp [0] [1] (.nm 1) false (iSq (fVar 0)) (fYes) (f2 pIdx false false (fVar 1) (f1 pNg false (fC (.int 1))))) (fN)))
theorem sc_leads : FnScope ["piles", "pile"] ["piles"] (defScope (top 3)) := ⟨rfl, rfl, rfl, by decide +kernel, rfl, by decide +kernel, by decide +kernel⟩
theorem ok_leads (F : FnP K "leads" (top 3) f fd) (gm : mg "leads" = some (.ref f)) (fr : Free mg) : Fd P w K mg base boxB "leads" 1 1 (runF 2 f_leads) := by
  refine fd_ok F sc_leads gm (F.bindsN fun _ _ _ _ _ _ us hl => match us, hl with | [_], _ => rfl) fun cdv A outer s H E hr => ?_
  unfold f_leads
  exact sOne (sRet (xc (xCallTy ok_tuple call_tuple_of rfl fr.tuple boot_tuple (ac (aCons (xc (xComp (mc := false) (me := false) (own := [("pile", 1)]) (p := (.nm 1)) rfl sc_leads.nd (ic (iSeq' (xVar (pv 0))) rfl rfl) (blkOk_by (by kernel_rfl)) (by decide) (fun _ _ _ _ _ => pgNm (pg_name (i := 1) sc_leads.nd rfl (by first | exact Or.inl rfl | exact Or.inr rfl))) (fun _ _ _ _ _ => tsNil) (fun _ _ _ _ _ => xc (xIdx (xVar (pv 1)) (xc (xUn ok_neg un_neg (xInt)) rfl rfl) (fun _ _ => rfl)) rfl rfl)) rfl rfl) (aNil)) rfl rfl)) rfl rfl))
abbrev F_leads : FF Bw := runF 2 f_leads

def b1_ring_from : SF Bw := fSq (fApp 2 [1] false (pl0 2) (fVar 1)) (fAsg [0, 1] (.nm 1) (f2 pIdx false false (fVar 0) (fVar 1)))
def f_ring_from : SF Bw := fSq (fAsg [] (.nm 2) (fLst (fN))) (fSq (fWhile (fB (f2 (pIn true) false false (fVar 1) (fVar 2))) b1_ring_from) (fSq (fAsg [2, 2, 1] (.nm 3) (fSl (fVar 2) (oS (fMt pIndexL false false (fVar 2) (fCo false (fVar 1) (fN)))) (oN))) (fSq (fAsg [3, 3] (.nm 4) (fMt pIndexL false false (fVar 3) (fCo false (fPr pMin false (fCo false (fVar 3) (fN))) (fN)))) (fRet (fPr pTuple false (fCo false (f2 pAdd true false (fSl (fVar 3) (oS (fVar 4)) (oN)) (fSl (fVar 3) (oN) (oS (fVar 4)))) (fN)))))))
theorem sc_ring_from : FnScope ["rows", "pile", "seen", "ring", "at"] ["rows", "pile"] (defScope (top 5)) := ⟨rfl, rfl, rfl, by decide +kernel, rfl, by decide +kernel, by decide +kernel⟩
theorem ok_ring_from (F : FnP K "ring_from" (top 5) f fd) (gm : mg "ring_from" = some (.ref f)) (fr : Free mg) : Fd P w K mg base boxB "ring_from" 1 2 (runF 5 f_ring_from) := by
  refine fd_ok F sc_ring_from gm (F.bindsN fun _ _ _ _ _ _ us hl => match us, hl with | [_, _], _ => rfl) fun cdv A outer s H E hr => ?_
  unfold f_ring_from
  exact sCons (sSet (i := 2) sc_ring_from.nd rfl (by first | exact Or.inl rfl | exact Or.inr rfl) (xc (xLst (aNil)) rfl rfl)) (sCons (sWhile PassesOwn.never (tc (tCmp ok_notIn (op_notInB (hu65 hr)) (xVar (pv 1)) (xVar (pv 2)) (by rfl)) rfl rfl) (sCons (sApp (rpl0 (pv 2)) (xVar (pv 1)) (by rfl) (fun ho ha => pe_bm PySem.F.plainAttrs_list PySem.F.slot_list_append PySem.F.type_list_append mt_append ho ha)) (sOne (sSet (i := 1) sc_ring_from.nd rfl (by first | exact Or.inl rfl | exact Or.inr rfl) (xc (xIdx (xVar (pv 0)) (xVar (pv 1)) (fun _ _ => rfl)) rfl rfl))))) (sCons (sSet (i := 3) sc_ring_from.nd rfl (by first | exact Or.inl rfl | exact Or.inr rfl) (xc (xSl (xVar (pv 2)) (oSo (xc (xMt (T := "list") (id := "list.index") (name := "index") ok_indexL (xVar (pv 2)) (ac (aCons (xVar (pv 1)) (aNil)) rfl rfl) (fun ho ha => pe_bm PySem.F.plainAttrs_list PySem.F.slot_list_index PySem.F.type_list_index (mt_indexD (hu65 hr)) ho ha)) rfl rfl)) (oNo)) rfl rfl)) (sCons (sSet (i := 4) sc_ring_from.nd rfl (by first | exact Or.inl rfl | exact Or.inr rfl) (xc (xMt (T := "list") (id := "list.index") (name := "index") ok_indexL (xVar (pv 3)) (ac (aCons (xc (xCallB ok_min (cr_min rfl) rfl fr.min (by decide +kernel) (ac (aCons (xVar (pv 3)) (aNil)) rfl rfl)) rfl rfl) (aNil)) rfl rfl) (fun ho ha => pe_bm PySem.F.plainAttrs_list PySem.F.slot_list_index PySem.F.type_list_index (mt_indexD (hu65 hr)) ho ha)) rfl rfl)) (sOne (sRet (xc (xCallTy ok_tuple call_tuple_of rfl fr.tuple boot_tuple (ac (aCons (xc (xBin ok_add op_addD (xc (xSl (xVar (pv 3)) (oSo (xVar (pv 4))) (oNo)) rfl rfl) (xc (xSl (xVar (pv 3)) (oNo) (oSo (xVar (pv 4)))) rfl rfl)) rfl rfl) (aNil)) rfl rfl)) rfl rfl))))))
abbrev F_ring_from : FF Bw := runF 5 f_ring_from

def b1_clock_paper : SF Bw := fPar [4, 5] [1, 4, 5] (fCo false (f2 pIdx false false (fVar 1) (fVar 4)) (fCo false (f2 pAdd true false (fVar 5) (fC (.int 1))) (fN)))
def b2_clock_paper : SF Bw := fSq (fPar [4, 5] [3] (fCo false (fVar 3) (fCo false (fC (.int 0)) (fN)))) (fSq (fWhile (fAnd (fB (f2 pNe false false (fVar 4) (fC (.int 0)))) (fB (f2 pLt false false (fVar 5) (fPr pLen false (fCo false (fVar 0) (fN)))))) b1_clock_paper) (fSq (fIfS (fB (f2 pNe false false (fVar 4) (fC (.int 0)))) (fRet (fTup (fCo false (fC (.str "ring")) (fCo false (fCall F_ring_from (fCo false (fVar 1) (fCo false (fVar 3) (fN)))) (fN))))) (fPass)) (fApp 2 [5] false (pl0 2) (fVar 5))))
def f_clock_paper : SF Bw := fSq (fAsg [0] (.nm 1) (fCall F_leads (fCo false (fVar 0) (fN)))) (fSq (fAsg [] (.nm 2) (fLst (fN))) (fSq (fFor [0] (.nm 3) (iR1 (fCo false (fPr pLen false (fCo false (fVar 0) (fN))) (fN))) b2_clock_paper) (fRet (fTup (fCo false (fC (.str "tree")) (fCo false (fPr pTuple false (fCo false (fVar 2) (fN))) (fN)))))))
theorem sc_clock_paper : FnScope ["piles", "rows", "found", "pile", "at", "far"] ["piles"] (defScope (top 4)) := ⟨rfl, rfl, rfl, by decide +kernel, rfl, by decide +kernel, by decide +kernel⟩
theorem ok_clock_paper (F : FnP K "clock_paper" (top 4) f fd) (gm : mg "clock_paper" = some (.ref f)) (fr : Free mg) (h_ring_from : Fd P w K mg base boxB "ring_from" 1 2 F_ring_from) (h_leads : Fd P w K mg base boxB "leads" 1 1 F_leads) : Fd P w K mg base boxB "clock_paper" 2 1 (runF 6 f_clock_paper) := by
  refine fd_ok F sc_clock_paper gm (F.bindsN fun _ _ _ _ _ _ us hl => match us, hl with | [_], _ => rfl) fun cdv A outer s H E hr => ?_
  unfold f_clock_paper
  exact sCons (sSet (i := 1) sc_clock_paper.nd rfl (by first | exact Or.inl rfl | exact Or.inr rfl) (xc (xCall h_leads (hr.mono (by decide)) rfl (ac (aCons (xVar (pv 0)) (aNil)) rfl rfl) (aLenC aLen0)) rfl rfl)) (sCons (sSet (i := 2) sc_clock_paper.nd rfl (by first | exact Or.inl rfl | exact Or.inr rfl) (xc (xLst (aNil)) rfl rfl)) (sCons (sFor (p := (.nm 3)) PassesOwn.never rfl (ic (iRg1 rfl fr.range (ac (aCons (xc (xCallB ok_len call_len rfl fr.len PySem.boot_len (ac (aCons (xVar (pv 0)) (aNil)) rfl rfl)) rfl rfl) (aNil)) rfl rfl)) rfl rfl) (pgNm (pg_name (i := 3) sc_clock_paper.nd rfl (by first | exact Or.inl rfl | exact Or.inr rfl))) (sCons (sPar2 (i := 4) (j := 5) (ac (aCons (xVar (pv 3)) (ac (aCons (xInt) (aNil)) rfl rfl)) rfl rfl) (fun ha => ps_par (i := 4) (j := 5) (by rfl) sc_clock_paper.nd rfl rfl (by decide) rfl rfl ha (by rfl))) (sCons (sWhile PassesOwn.never (tc (PW.pt (wc (wc (wAnd (tc (tCmp ok_ne (op_neD hr.units) (xVar (pv 4)) (xInt) (nomark _)) rfl rfl) (wAnd1 (tc (tCmp ok_lt op_lt (xVar (pv 5)) (xc (xCallB ok_len call_len rfl fr.len PySem.boot_len (ac (aCons (xVar (pv 0)) (aNil)) rfl rfl)) rfl rfl) (nomark _)) rfl rfl))) rfl rfl) rfl rfl)) rfl rfl) (sOne (sPar2 (i := 4) (j := 5) (ac (aCons (xc (xIdx (xVar (pv 1)) (xVar (pv 4)) (fun _ _ => rfl)) rfl rfl) (ac (aCons (xc (xBin ok_add op_addD (xVar (pv 5)) (xInt)) rfl rfl) (aNil)) rfl rfl)) rfl rfl) (fun ha => ps_par (i := 4) (j := 5) (by rfl) sc_clock_paper.nd rfl rfl (by decide) rfl rfl ha (by rfl))))) (sCons (sIf (tc (tCmp ok_ne (op_neD hr.units) (xVar (pv 4)) (xInt) (nomark _)) rfl rfl) (sOne (sRet (xc (xTup (ac (aCons (xStr) (ac (aCons (xc (xCall h_ring_from (hr.mono (by decide)) rfl (ac (aCons (xVar (pv 1)) (ac (aCons (xVar (pv 3)) (aNil)) rfl rfl)) rfl rfl) (aLenC (aLenC aLen0))) rfl rfl) (aNil)) rfl rfl)) rfl rfl)) rfl rfl))) (sNil)) (sOne (sApp (rpl0 (pv 2)) (xVar (pv 5)) (by rfl) (fun ho ha => pe_bm PySem.F.plainAttrs_list PySem.F.slot_list_append PySem.F.type_list_append mt_append ho ha))))))) (sOne (sRet (xc (xTup (ac (aCons (xStr) (ac (aCons (xc (xCallTy ok_tuple call_tuple_of rfl fr.tuple boot_tuple (ac (aCons (xVar (pv 2)) (aNil)) rfl rfl)) rfl rfl) (aNil)) rfl rfl)) rfl rfl)) rfl rfl)))))
abbrev F_clock_paper : FF Bw := runF 6 f_clock_paper

def b1_piles_from : SF Bw := fSq (fApp 2 [1, 3, 3, 4] false (pl0 2) (fPr pTuple false (fCo false (fSl (fVar 1) (oS (fVar 3)) (oS (f2 pAdd true false (fVar 3) (fVar 4)))) (fN)))) (fAsg [3, 4] (.nm 3) (f2 pAddI false false (fVar 3) (fVar 4)))
def f_piles_from : SF Bw := fSq (fPar [2, 3] [] (fCo false (fLst (fN)) (fCo false (fC (.int 0)) (fN)))) (fSq (fFor [0] (.nm 4) (iSq (fVar 0)) b1_piles_from) (fRet (fPr pTuple false (fCo false (fVar 2) (fN)))))
theorem sc_piles_from : FnScope ["sizes", "cards", "found", "at", "size"] ["sizes", "cards"] (defScope (top 6)) := ⟨rfl, rfl, rfl, by decide +kernel, rfl, by decide +kernel, by decide +kernel⟩
theorem ok_piles_from (F : FnP K "piles_from" (top 6) f fd) (gm : mg "piles_from" = some (.ref f)) (fr : Free mg) : Fd P w K mg base boxB "piles_from" 1 2 (runF 5 f_piles_from) := by
  refine fd_ok F sc_piles_from gm (F.bindsN fun _ _ _ _ _ _ us hl => match us, hl with | [_, _], _ => rfl) fun cdv A outer s H E hr => ?_
  unfold f_piles_from
  exact sCons (sPar2 (i := 2) (j := 3) (ac (aCons (xc (xLst (aNil)) rfl rfl) (ac (aCons (xInt) (aNil)) rfl rfl)) rfl rfl) (fun ha => ps_par (i := 2) (j := 3) (by rfl) sc_piles_from.nd rfl rfl (by decide) rfl rfl ha (by rfl))) (sCons (sFor (p := (.nm 4)) PassesOwn.never rfl (ic (iSeq' (xVar (pv 0))) rfl rfl) (pgNm (pg_name (i := 4) sc_piles_from.nd rfl (by first | exact Or.inl rfl | exact Or.inr rfl))) (sCons (sApp (rpl0 (pv 2)) (xc (xCallTy ok_tuple call_tuple_of rfl fr.tuple boot_tuple (ac (aCons (xc (xSl (xVar (pv 1)) (oSo (xVar (pv 3))) (oSo (xc (xBin ok_add op_addD (xVar (pv 3)) (xVar (pv 4))) rfl rfl))) rfl rfl) (aNil)) rfl rfl)) rfl rfl) (by rfl) (fun ho ha => pe_bm PySem.F.plainAttrs_list PySem.F.slot_list_append PySem.F.type_list_append mt_append ho ha)) (sOne (sAug (i := 3) ok_addI op_iadd sc_piles_from.nd rfl (by first | exact Or.inl rfl | exact Or.inr rfl) (xVar (pv 4)))))) (sOne (sRet (xc (xCallTy ok_tuple call_tuple_of rfl fr.tuple boot_tuple (ac (aCons (xVar (pv 2)) (aNil)) rfl rfl)) rfl rfl))))
abbrev F_piles_from : FF Bw := runF 5 f_piles_from

def f__law_same (F__law_same : FF Bw) : SF Bw := fSq (fIfS (fOr (fAnd (fTr (f1 (pIsD .tuple) false (fVar 0))) (fTr (f1 (pIsD .tuple) false (fVar 1)))) (fAnd (fTr (f1 (pIsD .list) false (fVar 0))) (fTr (f1 (pIsD .list) false (fVar 1))))) (fRet (fAndV (f2 pEq false false (fPr pLen false (fCo false (fVar 0) (fN))) (fPr pLen false (fCo false (fVar 1) (fN)))) (fPr pAll false (fCo false (fComp [0] [2] (.nm 2) false (iR1 (fCo false (fPr pLen false (fCo false (fVar 0) (fN))) (fN))) (fYes) (fCall F__law_same (fCo false (f2 pIdx false false (fVar 0) (fVar 2)) (fCo false (f2 pIdx false false (fVar 1) (fVar 2)) (fN))))) (fN))))) (fPass)) (fSq (fIfS (fOr (fTr (f1 (pIsD .bool) false (fVar 0))) (fTr (f1 (pIsD .bool) false (fVar 1)))) (fRet (fAndV (f1 (pIsD .bool) false (fVar 0)) (fAndV (f1 (pIsD .bool) false (fVar 1)) (f2 pEq false false (fVar 0) (fVar 1))))) (fPass)) (fSq (fIfS (fOr (fAnd (fTr (f1 (pIsD .int) false (fVar 0))) (fTr (f1 (pIsD .int) false (fVar 1)))) (fAnd (fTr (f1 (pIsD .str) false (fVar 0))) (fTr (f1 (pIsD .str) false (fVar 1))))) (fRet (f2 pEq false false (fVar 0) (fVar 1))) (fPass)) (fRet (fAndV (f2 pIs false false (fVar 0) (fC .none)) (f2 pIs false false (fVar 1) (fC .none))))))
theorem sc__law_same : FnScope ["a", "b", "k"] ["a", "b"] (defScope (top 11)) := ⟨rfl, rfl, rfl, by decide +kernel, rfl, by decide +kernel, by decide +kernel⟩
theorem st__law_same {F__law_same : FF Bw} {k : Nat} (F : FnP K "_law_same" (top 11) f fd) (gm : mg "_law_same" = some (.ref f)) (fr : Free mg) (h__law_same : Fd P w K mg base boxB "_law_same" (0 + k) 2 F__law_same) : Fd P w K mg base boxB "_law_same" (0 + k + 1) 2 (runF 3 (f__law_same F__law_same)) := by
  refine fd_ok F sc__law_same gm (F.bindsN fun _ _ _ _ _ _ us hl => match us, hl with | [_, _], _ => rfl) fun cdv A outer s H E hr => ?_
  unfold f__law_same
  exact sCons (sIf (tc (PW.pt (wc (wc (wOr (tc (PW.pt (wc (wc (wAnd (tc (tTru (xc (xIsi (t := .tuple) rfl fr.isinstance (xVar (pv 0)) (pe_bltn rfl fr.tuple boot_tuple rfl)) rfl rfl)) rfl rfl) (wAnd1 (tc (tTru (xc (xIsi (t := .tuple) rfl fr.isinstance (xVar (pv 1)) (pe_bltn rfl fr.tuple boot_tuple rfl)) rfl rfl)) rfl rfl))) rfl rfl) rfl rfl)) rfl rfl) (wOr1 (tc (PW.pt (wc (wc (wAnd (tc (tTru (xc (xIsi (t := .list) rfl fr.isinstance (xVar (pv 0)) (pe_bltn rfl fr.list boot_list rfl)) rfl rfl)) rfl rfl) (wAnd1 (tc (tTru (xc (xIsi (t := .list) rfl fr.isinstance (xVar (pv 1)) (pe_bltn rfl fr.list boot_list rfl)) rfl rfl)) rfl rfl))) rfl rfl) rfl rfl)) rfl rfl))) rfl rfl) rfl rfl)) rfl rfl) (sOne (sRet (xc (xc (xAndV (xc (xCmp ok_eq (op_eqD hr.units) (xc (xCallB ok_len call_len rfl fr.len PySem.boot_len (ac (aCons (xVar (pv 0)) (aNil)) rfl rfl)) rfl rfl) (xc (xCallB ok_len call_len rfl fr.len PySem.boot_len (ac (aCons (xVar (pv 1)) (aNil)) rfl rfl)) rfl rfl) (nomark _)) rfl rfl) (xOne (xc (xCallB ok_all (cr_all rfl) rfl fr.all boot_all (ac (aCons (xc (xComp (mc := false) (me := false) (own := [("k", 2)]) (p := (.nm 2)) rfl sc__law_same.nd (ic (iRg1 rfl fr.range (ac (aCons (xc (xCallB ok_len call_len rfl fr.len PySem.boot_len (ac (aCons (xVar (pv 0)) (aNil)) rfl rfl)) rfl rfl) (aNil)) rfl rfl)) rfl rfl) (blkOk_by (by kernel_rfl)) (by decide) (fun _ _ _ _ _ => pgNm (pg_name (i := 2) sc__law_same.nd rfl (by first | exact Or.inl rfl | exact Or.inr rfl))) (fun _ _ _ _ _ => tsNil) (fun _ _ _ _ _ => xc (xCall h__law_same (hr.mono (by omega)) rfl (ac (aCons (xc (xIdx (xVar (pv 0)) (xVar (pv 2)) (fun _ _ => rfl)) rfl rfl) (ac (aCons (xc (xIdx (xVar (pv 1)) (xVar (pv 2)) (fun _ _ => rfl)) rfl rfl) (aNil)) rfl rfl)) rfl rfl) (aLenC (aLenC aLen0))) rfl rfl)) rfl rfl) (aNil)) rfl rfl)) rfl rfl))) rfl rfl) rfl rfl))) (sNil)) (sCons (sIf (tc (PW.pt (wc (wc (wOr (tc (tTru (xc (xIsi (t := .bool) rfl fr.isinstance (xVar (pv 0)) (pe_bltn rfl fr.bool boot_bool rfl)) rfl rfl)) rfl rfl) (wOr1 (tc (tTru (xc (xIsi (t := .bool) rfl fr.isinstance (xVar (pv 1)) (pe_bltn rfl fr.bool boot_bool rfl)) rfl rfl)) rfl rfl))) rfl rfl) rfl rfl)) rfl rfl) (sOne (sRet (xc (xc (xAndV (xc (xIsi (t := .bool) rfl fr.isinstance (xVar (pv 0)) (pe_bltn rfl fr.bool boot_bool rfl)) rfl rfl) (xc (xAndV (xc (xIsi (t := .bool) rfl fr.isinstance (xVar (pv 1)) (pe_bltn rfl fr.bool boot_bool rfl)) rfl rfl) (xOne (xc (xCmp ok_eq (op_eqD hr.units) (xVar (pv 0)) (xVar (pv 1)) (nomark _)) rfl rfl))) rfl rfl)) rfl rfl) rfl rfl))) (sNil)) (sCons (sIf (tc (PW.pt (wc (wc (wOr (tc (PW.pt (wc (wc (wAnd (tc (tTru (xc (xIsi (t := .int) rfl fr.isinstance (xVar (pv 0)) (pe_bltn rfl fr.int boot_int rfl)) rfl rfl)) rfl rfl) (wAnd1 (tc (tTru (xc (xIsi (t := .int) rfl fr.isinstance (xVar (pv 1)) (pe_bltn rfl fr.int boot_int rfl)) rfl rfl)) rfl rfl))) rfl rfl) rfl rfl)) rfl rfl) (wOr1 (tc (PW.pt (wc (wc (wAnd (tc (tTru (xc (xIsi (t := .str) rfl fr.isinstance (xVar (pv 0)) (pe_bltn rfl fr.str boot_str rfl)) rfl rfl)) rfl rfl) (wAnd1 (tc (tTru (xc (xIsi (t := .str) rfl fr.isinstance (xVar (pv 1)) (pe_bltn rfl fr.str boot_str rfl)) rfl rfl)) rfl rfl))) rfl rfl) rfl rfl)) rfl rfl))) rfl rfl) rfl rfl)) rfl rfl) (sOne (sRet (xc (xCmp ok_eq (op_eqD hr.units) (xVar (pv 0)) (xVar (pv 1)) (nomark _)) rfl rfl))) (sNil)) (sOne (sRet (xc (xc (xAndV (xc (xCmp ok_is op_isN (xVar (pv 0)) (xNon) (nomark _)) rfl rfl) (xOne (xc (xCmp ok_is op_isN (xVar (pv 1)) (xNon) (nomark _)) rfl rfl))) rfl rfl) rfl rfl)))))
def F__law_same : FF Bw := itF 3 f__law_same 10
theorem ok__law_same (F : FnP K "_law_same" (top 11) f fd) (gm : mg "_law_same" = some (.ref f)) (fr : Free mg) : Fd P w K mg base boxB "_law_same" 11 2 F__law_same := fd_it F sc__law_same gm (F.bindsN fun _ _ _ _ _ _ us hl => match us, hl with | [_, _], _ => rfl) (fun k F__law_same h => st__law_same F gm fr h  ) 10

def b1__law_piles : SF Bw := fApp 6 [8, 5, 0, 5] true (pl0 6) (fPr pTuple false (fCo false (fComp [8] [9] (.nm 9) true (iR1 (fCo false (fVar 8) (fN))) (fYes) (fPopAt 5 (pl0 5) (fCall F__law_draw (fCo false (fVar 0) (fCo false (fPr pLen false (fCo false (fVar 5) (fN))) (fN)))))) (fN)))
def b2__law_piles : SF Bw := fAsg [5, 7, 3, 7] (.nm 5) (f2 pAdd true false (fVar 5) (f2 pMul true false (fLst (fCo false (fVar 7) (fN))) (f2 pIdx false false (fVar 3) (fVar 7))))
def f__law_piles : SF Bw := fSq (fAsg [0, 1, 0, 2] (.nm 3) (fComp [0, 1] [4] (.nm 4) false (iR1 (fCo false (f2 pAdd true false (fC (.int 1)) (fCall F__law_draw (fCo false (fVar 0) (fCo false (fVar 1) (fN))))) (fN))) (fYes) (f2 pAdd true false (fC (.int 1)) (fCall F__law_draw (fCo false (fVar 0) (fCo false (fVar 2) (fN))))))) (fSq (fAsg [] (.tp [(.nm 5), (.nm 6)]) (fTup (fCo false (fLst (fN)) (fCo false (fLst (fN)) (fN))))) (fSq (fFor [3] (.nm 7) (iR1 (fCo false (fPr pLen false (fCo false (fVar 3) (fN))) (fN))) b2__law_piles) (fSq (fFor [3] (.nm 8) (iSq (fVar 3)) b1__law_piles) (fRet (fPr pTuple false (fCo false (fVar 6) (fN)))))))
theorem sc__law_piles : FnScope ["box", "most", "size", "sizes", "turn", "left", "found", "number", "one", "k"] ["box", "most", "size"] (defScope (top 12)) := ⟨rfl, rfl, rfl, by decide +kernel, rfl, by decide +kernel, by decide +kernel⟩
theorem ok__law_piles (F : FnP K "_law_piles" (top 12) f fd) (gm : mg "_law_piles" = some (.ref f)) (fr : Free mg) (h__law_draw : Fd P w K mg base boxB "_law_draw" 2 2 F__law_draw) : Fd P w K mg base boxB "_law_piles" 3 3 (runF 10 f__law_piles) := by
  refine fd_ok F sc__law_piles gm (F.bindsN fun _ _ _ _ _ _ us hl => match us, hl with | [_, _, _], _ => rfl) fun cdv A outer s H E hr => ?_
  unfold f__law_piles
  exact sCons (sSetC' (i := 3) (mc := false) (me := false) (own := [("turn", 4)]) (p := (.nm 4)) rfl sc__law_piles.nd rfl rfl (sw_true rfl rfl rfl (by decide +kernel)) (ic (iRg1 rfl fr.range (ac (aCons (xc (xBin ok_add op_addD (xInt) (xc (xCall h__law_draw (hr.mono (by decide)) rfl (ac (aCons (xVar (pv 0)) (ac (aCons (xVar (pv 1)) (aNil)) rfl rfl)) rfl rfl) (aLenC (aLenC aLen0))) rfl rfl)) rfl rfl) (aNil)) rfl rfl)) rfl rfl) (blkOk_by (by kernel_rfl)) (by decide) (fun _ _ _ _ _ => pgNm (pg_name (i := 4) sc__law_piles.nd rfl (by first | exact Or.inl rfl | exact Or.inr rfl))) (fun _ _ _ _ _ => tsNil) (fun _ _ _ _ _ => xc (xBin ok_add op_addD (xInt) (xc (xCall h__law_draw (hr.mono (by decide)) rfl (ac (aCons (xVar (pv 0)) (ac (aCons (xVar (pv 2)) (aNil)) rfl rfl)) rfl rfl) (aLenC (aLenC aLen0))) rfl rfl)) rfl rfl) rfl rfl) (sCons (sAsg (p := (.tp [(.nm 5), (.nm 6)])) (xc (xTup (ac (aCons (xc (xLst (aNil)) rfl rfl) (ac (aCons (xc (xLst (aNil)) rfl rfl) (aNil)) rfl rfl)) rfl rfl)) rfl rfl) (pgTp rfl (pgsC (pgNm (pg_name (i := 5) sc__law_piles.nd rfl (by first | exact Or.inl rfl | exact Or.inr rfl))) (pgsC (pgNm (pg_name (i := 6) sc__law_piles.nd rfl (by first | exact Or.inl rfl | exact Or.inr rfl))) (pgsN))))) (sCons (sFor (p := (.nm 7)) PassesOwn.never rfl (ic (iRg1 rfl fr.range (ac (aCons (xc (xCallB ok_len call_len rfl fr.len PySem.boot_len (ac (aCons (xVar (pv 3)) (aNil)) rfl rfl)) rfl rfl) (aNil)) rfl rfl)) rfl rfl) (pgNm (pg_name (i := 7) sc__law_piles.nd rfl (by first | exact Or.inl rfl | exact Or.inr rfl))) (sOne (sSet (i := 5) sc__law_piles.nd rfl (by first | exact Or.inl rfl | exact Or.inr rfl) (xc (xBin ok_add op_addD (xVar (pv 5)) (xc (xBin ok_mul op_mulD (xc (xLst (ac (aCons (xVar (pv 7)) (aNil)) rfl rfl)) rfl rfl) (xc (xIdx (xVar (pv 3)) (xVar (pv 7)) (fun _ _ => rfl)) rfl rfl)) rfl rfl)) rfl rfl)))) (sCons (sFor (p := (.nm 8)) PassesOwn.never rfl (ic (iSeq' (xVar (pv 3))) rfl rfl) (pgNm (pg_name (i := 8) sc__law_piles.nd rfl (by first | exact Or.inl rfl | exact Or.inr rfl))) (sOne (sApp (rpl0 (pv 6)) (xc (xCallTy ok_tuple call_tuple_of rfl fr.tuple boot_tuple (ac (aCons (xc (xComp (mc := false) (me := true) (own := [("k", 9)]) (p := (.nm 9)) rfl sc__law_piles.nd (ic (iRg1 rfl fr.range (ac (aCons (xVar (pv 8)) (aNil)) rfl rfl)) rfl rfl) (blkOk_by (by kernel_rfl)) (by decide) (fun _ _ _ _ _ => pgNm (pg_name (i := 9) sc__law_piles.nd rfl (by first | exact Or.inl rfl | exact Or.inr rfl))) (fun _ _ _ _ _ => tsNil) (fun _ _ _ _ _ => xc (xPopAt (rpl0 (pv 5)) (xc (xCall h__law_draw (hr.mono (by decide)) rfl (ac (aCons (xVar (pv 0)) (ac (aCons (xc (xCallB ok_len call_len rfl fr.len PySem.boot_len (ac (aCons (xVar (pv 5)) (aNil)) rfl rfl)) rfl rfl) (aNil)) rfl rfl)) rfl rfl) (aLenC (aLenC aLen0))) rfl rfl) (by rfl) (fun ho ha => pe_bm PySem.F.plainAttrs_list PySem.F.slot_list_pop PySem.F.type_list_pop mt_popAt ho ha)) rfl rfl)) rfl rfl) (aNil)) rfl rfl)) rfl rfl) (by rfl) (fun ho ha => pe_bm PySem.F.plainAttrs_list PySem.F.slot_list_append PySem.F.type_list_append mt_append ho ha)))) (sOne (sRet (xc (xCallTy ok_tuple call_tuple_of rfl fr.tuple boot_tuple (ac (aCons (xVar (pv 6)) (aNil)) rfl rfl)) rfl rfl))))))
abbrev F__law_piles : FF Bw := runF 10 f__law_piles

def b1__law_played : SF Bw := fSq (fApp 5 [2] false (pl0 5) (fVar 2)) (fPar [2, 3] [1, 2, 3] (fCo false (fPopAt 1 (pl1 1 (fVar 2)) (fC (.int 0))) (fCo false (f2 pAdd true false (fVar 3) (fC (.int 1))) (fN))))
def f__law_played : SF Bw := fSq (fPar [1, 2, 3] [0, 4] (fCo false (fComp [0] [4] (.nm 4) false (iSq (fVar 0)) (fYes) (fPr pList true (fCo false (fVar 4) (fN)))) (fCo false (fC (.int 0)) (fCo false (fC (.int 0)) (fN))))) (fSq (fAsg [] (.nm 5) (fLst (fN))) (fSq (fWhile (fB (f2 pNe false false (f2 pIdx false false (fVar 1) (fVar 2)) (fLst (fN)))) b1__law_played) (fRet (fTup (fCo false (fVar 3) (fCo false (fVar 2) (fCo false (fVar 5) (fN))))))))
theorem sc__law_played : FnScope ["piles", "left", "at", "count", "pile", "walk"] ["piles"] (defScope (top 13)) := ⟨rfl, rfl, rfl, by decide +kernel, rfl, by decide +kernel, by decide +kernel⟩
theorem ok__law_played (F : FnP K "_law_played" (top 13) f fd) (gm : mg "_law_played" = some (.ref f)) (fr : Free mg) : Fd P w K mg base boxB "_law_played" 1 1 (runF 6 f__law_played) := by
  refine fd_ok F sc__law_played gm (F.bindsN fun _ _ _ _ _ _ us hl => match us, hl with | [_], _ => rfl) fun cdv A outer s H E hr => ?_
  unfold f__law_played
  exact sCons (sPar3 (i := 1) (j := 2) (l := 3) (ac (aCons (xc (xComp (mc := false) (me := false) (own := [("pile", 4)]) (p := (.nm 4)) rfl sc__law_played.nd (ic (iSeq' (xVar (pv 0))) rfl rfl) (blkOk_by (by kernel_rfl)) (by decide) (fun _ _ _ _ _ => pgNm (pg_name (i := 4) sc__law_played.nd rfl (by first | exact Or.inl rfl | exact Or.inr rfl))) (fun _ _ _ _ _ => tsNil) (fun _ _ _ _ _ => xc (xCallTy ok_list call_list_of rfl fr.list boot_list (ac (aCons (xVar (pv 4)) (aNil)) rfl rfl)) rfl rfl)) rfl rfl) (ac (aCons (xInt) (ac (aCons (xInt) (aNil)) rfl rfl)) rfl rfl)) rfl rfl) (fun ha => ps_par3 (i := 1) (j := 2) (l := 3) (by rfl) sc__law_played.nd rfl rfl rfl (by decide) (by decide) (by decide) rfl rfl rfl ha (by rfl))) (sCons (sSet (i := 5) sc__law_played.nd rfl (by first | exact Or.inl rfl | exact Or.inr rfl) (xc (xLst (aNil)) rfl rfl)) (sCons (sWhile PassesOwn.never (tc (tCmp ok_ne (op_neD hr.units) (xc (xIdx (xVar (pv 1)) (xVar (pv 2)) (fun _ _ => rfl)) rfl rfl) (xc (xLst (aNil)) rfl rfl) (nomark _)) rfl rfl) (sCons (sApp (rpl0 (pv 5)) (xVar (pv 2)) (by rfl) (fun ho ha => pe_bm PySem.F.plainAttrs_list PySem.F.slot_list_append PySem.F.type_list_append mt_append ho ha)) (sOne (sPar2 (i := 2) (j := 3) (ac (aCons (xc (xPopAt (rpl1 (pv 1) (xVar (pv 2)) (fun _ _ => rfl)) (xInt) (by rfl) (fun ho ha => pe_bm PySem.F.plainAttrs_list PySem.F.slot_list_pop PySem.F.type_list_pop mt_popAt ho ha)) rfl rfl) (ac (aCons (xc (xBin ok_add op_addD (xVar (pv 3)) (xInt)) rfl rfl) (aNil)) rfl rfl)) rfl rfl) (fun ha => ps_par (i := 2) (j := 3) (by rfl) sc__law_played.nd rfl rfl (by decide) rfl rfl ha (by rfl)))))) (sOne (sRet (xc (xTup (ac (aCons (xVar (pv 3)) (ac (aCons (xVar (pv 2)) (ac (aCons (xVar (pv 5)) (aNil)) rfl rfl)) rfl rfl)) rfl rfl)) rfl rfl)))))
abbrev F__law_played : FF Bw := runF 6 f__law_played

def b1__law_ways (F__law_ways : FF Bw) : SF Bw := fIfS (fB (f2 pGt false false (f2 pIdx false false (fVar 0) (fVar 2)) (fC (.int 0)))) (fSq (fAsg [0, 2, 0, 2, 0, 2] (.nm 3) (f2 pAdd true false (f2 pAdd true false (fSl (fVar 0) (oN) (oS (fVar 2))) (fLst (fCo false (f2 pSub false false (f2 pIdx false false (fVar 0) (fVar 2)) (fC (.int 1))) (fN)))) (fSl (fVar 0) (oS (f2 pAdd true false (fVar 2) (fC (.int 1)))) (oN)))) (fExt 1 [3, 2, 4] false (pl0 1) (fComp [3] [4] (.nm 4) false (iSq (fCall F__law_ways (fCo false (fVar 3) (fN)))) (fYes) (f2 pAdd true false (fTup (fCo false (fVar 2) (fN))) (fVar 4))))) (fPass)
def f__law_ways (F__law_ways : FF Bw) : SF Bw := fSq (fIfS (fB (f2 pEq false false (fPr pSum false (fCo false (fVar 0) (fN))) (fC (.int 0)))) (fRet (fLst (fCo false (fTup (fN)) (fN)))) (fPass)) (fSq (fAsg [] (.nm 1) (fLst (fN))) (fSq (fFor [0] (.nm 2) (iR1 (fCo false (fPr pLen false (fCo false (fVar 0) (fN))) (fN))) (b1__law_ways F__law_ways)) (fRet (fVar 1))))
theorem sc__law_ways : FnScope ["counts", "found", "number", "rest", "way"] ["counts"] (defScope (top 14)) := ⟨rfl, rfl, rfl, by decide +kernel, rfl, by decide +kernel, by decide +kernel⟩
theorem st__law_ways {F__law_ways : FF Bw} {k : Nat} (F : FnP K "_law_ways" (top 14) f fd) (gm : mg "_law_ways" = some (.ref f)) (fr : Free mg) (h__law_ways : Fd P w K mg base boxB "_law_ways" (0 + k) 1 F__law_ways) : Fd P w K mg base boxB "_law_ways" (0 + k + 1) 1 (runF 5 (f__law_ways F__law_ways)) := by
  refine fd_ok F sc__law_ways gm (F.bindsN fun _ _ _ _ _ _ us hl => match us, hl with | [_], _ => rfl) fun cdv A outer s H E hr => ?_
  unfold f__law_ways
  exact sCons (sIf (tc (tCmp ok_eq (op_eqD hr.units) (xc (xCallB ok_sum (cr_sum rfl) rfl fr.sum (by decide +kernel) (ac (aCons (xVar (pv 0)) (aNil)) rfl rfl)) rfl rfl) (xInt) (nomark _)) rfl rfl) (sOne (sRet (xc (xLst (ac (aCons (xc (xTup (aNil)) rfl rfl) (aNil)) rfl rfl)) rfl rfl))) (sNil)) (sCons (sSet (i := 1) sc__law_ways.nd rfl (by first | exact Or.inl rfl | exact Or.inr rfl) (xc (xLst (aNil)) rfl rfl)) (sCons (sFor (p := (.nm 2)) PassesOwn.never rfl (ic (iRg1 rfl fr.range (ac (aCons (xc (xCallB ok_len call_len rfl fr.len PySem.boot_len (ac (aCons (xVar (pv 0)) (aNil)) rfl rfl)) rfl rfl) (aNil)) rfl rfl)) rfl rfl) (pgNm (pg_name (i := 2) sc__law_ways.nd rfl (by first | exact Or.inl rfl | exact Or.inr rfl))) (sOne (sIf (tc (tCmp ok_gt op_gt (xc (xIdx (xVar (pv 0)) (xVar (pv 2)) (fun _ _ => rfl)) rfl rfl) (xInt) (nomark _)) rfl rfl) (sCons (sSet (i := 3) sc__law_ways.nd rfl (by first | exact Or.inl rfl | exact Or.inr rfl) (xc (xBin ok_add op_addD (xc (xBin ok_add op_addD (xc (xSl (xVar (pv 0)) (oNo) (oSo (xVar (pv 2)))) rfl rfl) (xc (xLst (ac (aCons (xc (xBin ok_sub op_sub (xc (xIdx (xVar (pv 0)) (xVar (pv 2)) (fun _ _ => rfl)) rfl rfl) (xInt)) rfl rfl) (aNil)) rfl rfl)) rfl rfl)) rfl rfl) (xc (xSl (xVar (pv 0)) (oSo (xc (xBin ok_add op_addD (xVar (pv 2)) (xInt)) rfl rfl)) (oNo)) rfl rfl)) rfl rfl)) (sOne (sExt (rpl0 (pv 1)) (xc (xComp (mc := false) (me := false) (own := [("way", 4)]) (p := (.nm 4)) rfl sc__law_ways.nd (ic (iSeq' (xc (xCall h__law_ways (hr.mono (by omega)) rfl (ac (aCons (xVar (pv 3)) (aNil)) rfl rfl) (aLenC aLen0)) rfl rfl)) rfl rfl) (blkOk_by (by kernel_rfl)) (by decide) (fun _ _ _ _ _ => pgNm (pg_name (i := 4) sc__law_ways.nd rfl (by first | exact Or.inl rfl | exact Or.inr rfl))) (fun _ _ _ _ _ => tsNil) (fun _ _ _ _ _ => xc (xBin ok_add op_addD (xc (xTup (ac (aCons (xVar (pv 2)) (aNil)) rfl rfl)) rfl rfl) (xVar (pv 4))) rfl rfl)) rfl rfl) (by rfl) (fun ho ha => pe_bm PySem.F.plainAttrs_list PySem.F.slot_list_extend PySem.F.type_list_extend mt_extend ho ha)))) (sNil)))) (sOne (sRet (xVar (pv 1))))))
def F__law_ways : FF Bw := itF 5 f__law_ways 10
theorem ok__law_ways (F : FnP K "_law_ways" (top 14) f fd) (gm : mg "_law_ways" = some (.ref f)) (fr : Free mg) : Fd P w K mg base boxB "_law_ways" 11 1 F__law_ways := fd_it F sc__law_ways gm (F.bindsN fun _ _ _ _ _ _ us hl => match us, hl with | [_], _ => rfl) (fun k F__law_ways h => st__law_ways F gm fr h  ) 10

def b1_law : SF Bw := fExt 16 [7, 17, 17, 18] false (pl0 16) (fComp [7, 17] [18] (.nm 18) false (iR1 (fCo false (f2 pSub false false (fPr pLen false (fCo false (f2 pIdx false false (fVar 7) (fVar 17)) (fN))) (fC (.int 1))) (fN))) (fYes) (fTup (fCo false (fVar 17) (fCo false (fVar 18) (fN)))))
def b2_law : SF Bw := fAsg [13, 14] (.nm 13) (f2 pAdd true false (fVar 13) (fVar 14))
def b3_law : SF Bw := fSq (fAsg [4, 1, 4] (.nm 6) (f2 pIdx false false (fVar 4) (fCall F__law_draw (fCo false (fVar 1) (fCo false (fPr pLen false (fCo false (fVar 4) (fN))) (fN)))))) (fSq (fAsg [2, 6] (.nm 7) (fCall F_piles_from (fCo false (fPr pTuple false (fCo false (fVar 2) (fN))) (fCo false (fVar 6) (fN))))) (fSq (fAsg [] (.nm 13) (fTup (fN))) (fSq (fFor [7] (.nm 14) (iSq (fVar 7)) b2_law) (fSq (fIfS (fOr (fB (f2 pNe false false (fVar 13) (fVar 6))) (fOr (fB (f2 pNe false false (fComp [7] [14] (.nm 14) false (iSq (fVar 7)) (fYes) (fPr pLen false (fCo false (fVar 14) (fN)))) (fVar 2))) (fNot (fTr (f1 (pIsD .tuple) false (fVar 7)))))) (fRet (fC (.bool false))) (fPass)) (fSq (fAsg [7, 6] (.nm 15) (f2 pEq false false (f2 pIdx false false (fCall F__law_played (fCo false (fVar 7) (fN))) (fC (.int 0))) (fPr pLen false (fCo false (fVar 6) (fN))))) (fSq (fIfS (fOr (fNot (fTr (fCall F__law_same (fCo false (fCall F_is_won (fCo false (fVar 7) (fN))) (fCo false (fVar 15) (fN)))))) (fB (f2 pNe false false (f2 pEq false false (f2 pIdx false false (fCall F_clock_paper (fCo false (fVar 7) (fN))) (fC (.int 0))) (fC (.str "tree"))) (fVar 15)))) (fRet (fC (.bool false))) (fPass)) (fSq (fAsg [] (.nm 16) (fLst (fN))) (fSq (fFor [7] (.nm 17) (iR1 (fCo false (fPr pLen false (fCo false (fVar 7) (fN))) (fN))) b1_law) (fIfS (fB (f2 pGt false false (fPr pLen false (fCo false (fVar 16) (fN))) (fC (.int 1)))) (fSq (fPar [19, 20] [16, 1, 16, 16, 1, 16] (fCo false (f2 pIdx false false (fVar 16) (fCall F__law_draw (fCo false (fVar 1) (fCo false (fPr pLen false (fCo false (fVar 16) (fN))) (fN))))) (fCo false (f2 pIdx false false (fVar 16) (fCall F__law_draw (fCo false (fVar 1) (fCo false (fPr pLen false (fCo false (fVar 16) (fN))) (fN))))) (fN)))) (fSq (fAsg [7, 14] (.nm 21) (fComp [7] [14] (.nm 14) false (iSq (fVar 7)) (fYes) (fPr pList true (fCo false (fVar 14) (fN))))) (fSq (fSw 21 (pl1 21 (f2 pIdx false false (fVar 19) (fC (.int 0)))) (f2 pIdx false false (fVar 19) (fC (.int 1))) 21 (pl1 21 (f2 pIdx false false (fVar 20) (fC (.int 0)))) (f2 pIdx false false (fVar 20) (fC (.int 1))) (fCo false (f2 pIdx false false (f2 pIdx false false (fVar 21) (f2 pIdx false false (fVar 20) (fC (.int 0)))) (f2 pIdx false false (fVar 20) (fC (.int 1)))) (fCo false (f2 pIdx false false (f2 pIdx false false (fVar 21) (f2 pIdx false false (fVar 19) (fC (.int 0)))) (f2 pIdx false false (fVar 19) (fC (.int 1)))) (fN)))) (fIfS (fNot (fTr (fCall F__law_same (fCo false (fCall F_is_won (fCo false (fPr pTuple false (fCo false (fComp [21] [22] (.nm 22) false (iSq (fVar 21)) (fYes) (fPr pTuple false (fCo false (fVar 22) (fN)))) (fN))) (fN))) (fCo false (fVar 15) (fN)))))) (fRet (fC (.bool false))) (fPass))))) (fPass))))))))))
def b4_law : SF Bw := fSq (fApp 7 [6, 8, 8, 9] false (pl0 7) (fSl (fVar 6) (oS (fVar 8)) (oS (f2 pAdd true false (fVar 8) (fVar 9))))) (fAsg [8, 9] (.nm 8) (f2 pAdd true false (fVar 8) (fVar 9)))
def b5_law : SF Bw := fSq (fPar [7, 8] [] (fCo false (fLst (fN)) (fCo false (fC (.int 0)) (fN)))) (fSq (fFor [2] (.nm 9) (iSq (fVar 2)) b4_law) (fSq (fAsg [7] (.tp [(.nm 10), (.nm 11), (.nm 12)]) (fCall F__law_played (fCo false (fVar 7) (fN)))) (fAsg [5, 10, 6] (.nm 5) (f2 pAdd true false (fVar 5) (fPr pInt false (fCo false (f2 pEq false false (fVar 10) (fPr pLen false (fCo false (fVar 6) (fN)))) (fN)))))))
def b6_law : SF Bw := fAsg [2] (.nm 2) (fSl (fVar 2) (oN) (oS (f1 pNg false (fC (.int 1)))))
def f_law : SF Bw := fSq (fAsg [1, 1] (.nm 2) (fComp [1] [3] (.nm 3) false (iR1 (fCo false (f2 pAdd true false (fC (.int 1)) (fCall F__law_draw (fCo false (fVar 1) (fCo false (fC (.int 3)) (fN))))) (fN))) (fYes) (f2 pAdd true false (fC (.int 1)) (fCall F__law_draw (fCo false (fVar 1) (fCo false (fC (.int 3)) (fN))))))) (fSq (fWhile (fB (f2 pGt false false (fPr pSum false (fCo false (fVar 2) (fN))) (fC (.int 7)))) b6_law) (fSq (fAsg [2] (.nm 4) (fCall F__law_ways (fCo false (fVar 2) (fN)))) (fSq (fAsg [] (.nm 5) (fC (.int 0))) (fSq (fFor [4] (.nm 6) (iSq (fVar 4)) b5_law) (fSq (fIfS (fB (f2 pNe false false (f2 pMul true false (fVar 5) (fPr pSum false (fCo false (fVar 2) (fN)))) (f2 pMul true false (fPr pLen false (fCo false (fVar 4) (fN))) (f2 pIdx false false (fVar 2) (fC (.int 0)))))) (fRet (fC (.bool false))) (fPass)) (fSq (fFor [] (.nm 3) (iR1 (fCo false (fC (.int 12)) (fN))) b3_law) (fSq (fAsg [1] (.nm 23) (fCall F__law_piles (fCo false (fVar 1) (fCo false (fC (.int 7)) (fCo false (fC (.int 4)) (fN)))))) (fRet (fCall F__law_same (fCo false (fCall F_is_won (fCo false (fVar 23) (fN))) (fCo false (f2 pEq false false (f2 pIdx false false (fCall F__law_played (fCo false (fVar 23) (fN))) (fC (.int 0))) (fPr pSum false (fCo false (fComp [23] [14] (.nm 14) false (iSq (fVar 23)) (fYes) (fPr pLen false (fCo false (fVar 14) (fN)))) (fN)))) (fN))))))))))))
theorem sc_law : FnScope ["script", "box", "sizes", "turn", "ways", "won", "way", "piles", "at", "size", "count", "end", "walk", "flat", "pile", "fine", "free", "k", "j", "one", "other", "rows", "row", "big"] ["script"] (defScope (top 15)) := ⟨rfl, rfl, rfl, by decide +kernel, rfl, by decide +kernel, by decide +kernel⟩
theorem bd_law (F : FnP K "law" (top 15) f fd) (fr : Free mg) (h__law_played : Fd P w K mg base boxB "_law_played" 1 1 F__law_played) (h_is_won : Fd P w K mg base boxB "is_won" 2 1 F_is_won) (h__law_same : Fd P w K mg base boxB "_law_same" 11 2 F__law_same) (h__law_piles : Fd P w K mg base boxB "_law_piles" 3 3 F__law_piles) (h__law_draw : Fd P w K mg base boxB "_law_draw" 2 2 F__law_draw) (h_clock_paper : Fd P w K mg base boxB "clock_paper" 2 1 F_clock_paper) (h_piles_from : Fd P w K mg base boxB "piles_from" 1 2 F_piles_from) (h__law_ways : Fd P w K mg base boxB "_law_ways" 11 1 F__law_ways) (cdv : Value) (A : Around) (outer : List Env) (s : Shared) (H : Hp) (E : XK) (hr : Room 11 (A.deeper (envOfC "law" (defScope (top 15)) s.heap.objs.size f cdv))) : VSs (cxOf CX0 P w K mg base ["script", "box", "sizes", "turn", "ways", "won", "way", "piles", "at", "size", "count", "end", "walk", "flat", "pile", "fine", "free", "k", "j", "one", "other", "rows", "row", "big"] "law" (defScope (top 15)) f cdv A outer s H E).nox boxB ((defBody (top 15)).drop 1) f_law := by
  unfold f_law
  exact sCons (sSetC' (i := 2) (mc := false) (me := false) (own := [("turn", 3)]) (p := (.nm 3)) rfl sc_law.nd rfl rfl (sw_true rfl rfl rfl (by decide +kernel)) (ic (iRg1 rfl fr.range (ac (aCons (xc (xBin ok_add op_addD (xInt) (xc (xCall h__law_draw (hr.mono (by decide)) rfl (ac (aCons (xVar (pv 1)) (ac (aCons (xInt) (aNil)) rfl rfl)) rfl rfl) (aLenC (aLenC aLen0))) rfl rfl)) rfl rfl) (aNil)) rfl rfl)) rfl rfl) (blkOk_by (by kernel_rfl)) (by decide) (fun _ _ _ _ _ => pgNm (pg_name (i := 3) sc_law.nd rfl (by first | exact Or.inl rfl | exact Or.inr rfl))) (fun _ _ _ _ _ => tsNil) (fun _ _ _ _ _ => xc (xBin ok_add op_addD (xInt) (xc (xCall h__law_draw (hr.mono (by decide)) rfl (ac (aCons (xVar (pv 1)) (ac (aCons (xInt) (aNil)) rfl rfl)) rfl rfl) (aLenC (aLenC aLen0))) rfl rfl)) rfl rfl) rfl rfl) (sCons (sWhile PassesOwn.never (tc (tCmp ok_gt op_gt (xc (xCallB ok_sum (cr_sum rfl) rfl fr.sum (by decide +kernel) (ac (aCons (xVar (pv 2)) (aNil)) rfl rfl)) rfl rfl) (xInt) (nomark _)) rfl rfl) (sOne (sSet (i := 2) sc_law.nd rfl (by first | exact Or.inl rfl | exact Or.inr rfl) (xc (xSl (xVar (pv 2)) (oNo) (oSo (xc (xUn ok_neg un_neg (xInt)) rfl rfl))) rfl rfl)))) (sCons (sSet (i := 4) sc_law.nd rfl (by first | exact Or.inl rfl | exact Or.inr rfl) (xc (xCall h__law_ways (hr.mono (by decide)) rfl (ac (aCons (xVar (pv 2)) (aNil)) rfl rfl) (aLenC aLen0)) rfl rfl)) (sCons (sSet (i := 5) sc_law.nd rfl (by first | exact Or.inl rfl | exact Or.inr rfl) (xInt)) (sCons (sFor (p := (.nm 6)) PassesOwn.never rfl (ic (iSeq' (xVar (pv 4))) rfl rfl) (pgNm (pg_name (i := 6) sc_law.nd rfl (by first | exact Or.inl rfl | exact Or.inr rfl))) (sCons (sPar2 (i := 7) (j := 8) (ac (aCons (xc (xLst (aNil)) rfl rfl) (ac (aCons (xInt) (aNil)) rfl rfl)) rfl rfl) (fun ha => ps_par (i := 7) (j := 8) (by rfl) sc_law.nd rfl rfl (by decide) rfl rfl ha (by rfl))) (sCons (sFor (p := (.nm 9)) PassesOwn.never rfl (ic (iSeq' (xVar (pv 2))) rfl rfl) (pgNm (pg_name (i := 9) sc_law.nd rfl (by first | exact Or.inl rfl | exact Or.inr rfl))) (sCons (sApp (rpl0 (pv 7)) (xc (xSl (xVar (pv 6)) (oSo (xVar (pv 8))) (oSo (xc (xBin ok_add op_addD (xVar (pv 8)) (xVar (pv 9))) rfl rfl))) rfl rfl) (by rfl) (fun ho ha => pe_bm PySem.F.plainAttrs_list PySem.F.slot_list_append PySem.F.type_list_append mt_append ho ha)) (sOne (sSet (i := 8) sc_law.nd rfl (by first | exact Or.inl rfl | exact Or.inr rfl) (xc (xBin ok_add op_addD (xVar (pv 8)) (xVar (pv 9))) rfl rfl))))) (sCons (sAsg (p := (.tp [(.nm 10), (.nm 11), (.nm 12)])) (xc (xCall h__law_played (hr.mono (by decide)) rfl (ac (aCons (xVar (pv 7)) (aNil)) rfl rfl) (aLenC aLen0)) rfl rfl) (pgTp rfl (pgsC (pgNm (pg_name (i := 10) sc_law.nd rfl (by first | exact Or.inl rfl | exact Or.inr rfl))) (pgsC (pgNm (pg_name (i := 11) sc_law.nd rfl (by first | exact Or.inl rfl | exact Or.inr rfl))) (pgsC (pgNm (pg_name (i := 12) sc_law.nd rfl (by first | exact Or.inl rfl | exact Or.inr rfl))) (pgsN)))))) (sOne (sSet (i := 5) sc_law.nd rfl (by first | exact Or.inl rfl | exact Or.inr rfl) (xc (xBin ok_add op_addD (xVar (pv 5)) (xc (xCallTy ok_int call_int1 rfl fr.int boot_int (ac (aCons (xc (xCmp ok_eq (op_eqD hr.units) (xVar (pv 10)) (xc (xCallB ok_len call_len rfl fr.len PySem.boot_len (ac (aCons (xVar (pv 6)) (aNil)) rfl rfl)) rfl rfl) (nomark _)) rfl rfl) (aNil)) rfl rfl)) rfl rfl)) rfl rfl))))))) (sCons (sIf (tc (tCmp ok_ne (op_neD hr.units) (xc (xBin ok_mul op_mulD (xVar (pv 5)) (xc (xCallB ok_sum (cr_sum rfl) rfl fr.sum (by decide +kernel) (ac (aCons (xVar (pv 2)) (aNil)) rfl rfl)) rfl rfl)) rfl rfl) (xc (xBin ok_mul op_mulD (xc (xCallB ok_len call_len rfl fr.len PySem.boot_len (ac (aCons (xVar (pv 4)) (aNil)) rfl rfl)) rfl rfl) (xc (xIdx (xVar (pv 2)) (xInt) (fun _ _ => rfl)) rfl rfl)) rfl rfl) (nomark _)) rfl rfl) (sOne (sRet (xBl))) (sNil)) (sCons (sFor (p := (.nm 3)) PassesOwn.never rfl (ic (iRg1 rfl fr.range (ac (aCons (xInt) (aNil)) rfl rfl)) rfl rfl) (pgNm (pg_name (i := 3) sc_law.nd rfl (by first | exact Or.inl rfl | exact Or.inr rfl))) (sCons (sSet (i := 6) sc_law.nd rfl (by first | exact Or.inl rfl | exact Or.inr rfl) (xc (xIdx (xVar (pv 4)) (xc (xCall h__law_draw (hr.mono (by decide)) rfl (ac (aCons (xVar (pv 1)) (ac (aCons (xc (xCallB ok_len call_len rfl fr.len PySem.boot_len (ac (aCons (xVar (pv 4)) (aNil)) rfl rfl)) rfl rfl) (aNil)) rfl rfl)) rfl rfl) (aLenC (aLenC aLen0))) rfl rfl) (fun _ _ => rfl)) rfl rfl)) (sCons (sSet (i := 7) sc_law.nd rfl (by first | exact Or.inl rfl | exact Or.inr rfl) (xc (xCall h_piles_from (hr.mono (by decide)) rfl (ac (aCons (xc (xCallTy ok_tuple call_tuple_of rfl fr.tuple boot_tuple (ac (aCons (xVar (pv 2)) (aNil)) rfl rfl)) rfl rfl) (ac (aCons (xVar (pv 6)) (aNil)) rfl rfl)) rfl rfl) (aLenC (aLenC aLen0))) rfl rfl)) (sCons (sSet (i := 13) sc_law.nd rfl (by first | exact Or.inl rfl | exact Or.inr rfl) (xc (xTup (aNil)) rfl rfl)) (sCons (sFor (p := (.nm 14)) PassesOwn.never rfl (ic (iSeq' (xVar (pv 7))) rfl rfl) (pgNm (pg_name (i := 14) sc_law.nd rfl (by first | exact Or.inl rfl | exact Or.inr rfl))) (sOne (sSet (i := 13) sc_law.nd rfl (by first | exact Or.inl rfl | exact Or.inr rfl) (xc (xBin ok_add op_addD (xVar (pv 13)) (xVar (pv 14))) rfl rfl)))) (sCons (sIf (tc (PW.pt (wc (wc (wOr (tc (tCmp ok_ne (op_neD hr.units) (xVar (pv 13)) (xVar (pv 6)) (nomark _)) rfl rfl) (wc (wOr (tc (tCmp ok_ne (op_neD hr.units) (xc (xComp (mc := false) (me := false) (own := [("pile", 14)]) (p := (.nm 14)) rfl sc_law.nd (ic (iSeq' (xVar (pv 7))) rfl rfl) (blkOk_by (by kernel_rfl)) (by decide) (fun _ _ _ _ _ => pgNm (pg_name (i := 14) sc_law.nd rfl (by first | exact Or.inl rfl | exact Or.inr rfl))) (fun _ _ _ _ _ => tsNil) (fun _ _ _ _ _ => xc (xCallB ok_len call_len rfl fr.len PySem.boot_len (ac (aCons (xVar (pv 14)) (aNil)) rfl rfl)) rfl rfl)) rfl rfl) (xVar (pv 2)) (nomark _)) rfl rfl) (wOr1 (tc (tNt (tc (tTru (xc (xIsi (t := .tuple) rfl fr.isinstance (xVar (pv 7)) (pe_bltn rfl fr.tuple boot_tuple rfl)) rfl rfl)) rfl rfl)) rfl rfl))) rfl rfl)) rfl rfl) rfl rfl)) rfl rfl) (sOne (sRet (xBl))) (sNil)) (sCons (sSet (i := 15) sc_law.nd rfl (by first | exact Or.inl rfl | exact Or.inr rfl) (xc (xCmp ok_eq (op_eqD hr.units) (xc (xIdx (xc (xCall h__law_played (hr.mono (by decide)) rfl (ac (aCons (xVar (pv 7)) (aNil)) rfl rfl) (aLenC aLen0)) rfl rfl) (xInt) (fun _ _ => rfl)) rfl rfl) (xc (xCallB ok_len call_len rfl fr.len PySem.boot_len (ac (aCons (xVar (pv 6)) (aNil)) rfl rfl)) rfl rfl) (nomark _)) rfl rfl)) (sCons (sIf (tc (PW.pt (wc (wc (wOr (tc (tNt (tc (tTru (xc (xCall h__law_same (hr.mono (by decide)) rfl (ac (aCons (xc (xCall h_is_won (hr.mono (by decide)) rfl (ac (aCons (xVar (pv 7)) (aNil)) rfl rfl) (aLenC aLen0)) rfl rfl) (ac (aCons (xVar (pv 15)) (aNil)) rfl rfl)) rfl rfl) (aLenC (aLenC aLen0))) rfl rfl)) rfl rfl)) rfl rfl) (wOr1 (tc (tCmp ok_ne (op_neD hr.units) (xc (xCmp ok_eq (op_eqD hr.units) (xc (xIdx (xc (xCall h_clock_paper (hr.mono (by decide)) rfl (ac (aCons (xVar (pv 7)) (aNil)) rfl rfl) (aLenC aLen0)) rfl rfl) (xInt) (fun _ _ => rfl)) rfl rfl) (xStr) (nomark _)) rfl rfl) (xVar (pv 15)) (nomark _)) rfl rfl))) rfl rfl) rfl rfl)) rfl rfl) (sOne (sRet (xBl))) (sNil)) (sCons (sSet (i := 16) sc_law.nd rfl (by first | exact Or.inl rfl | exact Or.inr rfl) (xc (xLst (aNil)) rfl rfl)) (sCons (sFor (p := (.nm 17)) PassesOwn.never rfl (ic (iRg1 rfl fr.range (ac (aCons (xc (xCallB ok_len call_len rfl fr.len PySem.boot_len (ac (aCons (xVar (pv 7)) (aNil)) rfl rfl)) rfl rfl) (aNil)) rfl rfl)) rfl rfl) (pgNm (pg_name (i := 17) sc_law.nd rfl (by first | exact Or.inl rfl | exact Or.inr rfl))) (sOne (sExt (rpl0 (pv 16)) (xc (xComp (mc := false) (me := false) (own := [("j", 18)]) (p := (.nm 18)) rfl sc_law.nd (ic (iRg1 rfl fr.range (ac (aCons (xc (xBin ok_sub op_sub (xc (xCallB ok_len call_len rfl fr.len PySem.boot_len (ac (aCons (xc (xIdx (xVar (pv 7)) (xVar (pv 17)) (fun _ _ => rfl)) rfl rfl) (aNil)) rfl rfl)) rfl rfl) (xInt)) rfl rfl) (aNil)) rfl rfl)) rfl rfl) (blkOk_by (by kernel_rfl)) (by decide) (fun _ _ _ _ _ => pgNm (pg_name (i := 18) sc_law.nd rfl (by first | exact Or.inl rfl | exact Or.inr rfl))) (fun _ _ _ _ _ => tsNil) (fun _ _ _ _ _ => xc (xTup (ac (aCons (xVar (pv 17)) (ac (aCons (xVar (pv 18)) (aNil)) rfl rfl)) rfl rfl)) rfl rfl)) rfl rfl) (by rfl) (fun ho ha => pe_bm PySem.F.plainAttrs_list PySem.F.slot_list_extend PySem.F.type_list_extend mt_extend ho ha)))) (sOne (sIf (tc (tCmp ok_gt op_gt (xc (xCallB ok_len call_len rfl fr.len PySem.boot_len (ac (aCons (xVar (pv 16)) (aNil)) rfl rfl)) rfl rfl) (xInt) (nomark _)) rfl rfl) (sCons (sPar2 (i := 19) (j := 20) (ac (aCons (xc (xIdx (xVar (pv 16)) (xc (xCall h__law_draw (hr.mono (by decide)) rfl (ac (aCons (xVar (pv 1)) (ac (aCons (xc (xCallB ok_len call_len rfl fr.len PySem.boot_len (ac (aCons (xVar (pv 16)) (aNil)) rfl rfl)) rfl rfl) (aNil)) rfl rfl)) rfl rfl) (aLenC (aLenC aLen0))) rfl rfl) (fun _ _ => rfl)) rfl rfl) (ac (aCons (xc (xIdx (xVar (pv 16)) (xc (xCall h__law_draw (hr.mono (by decide)) rfl (ac (aCons (xVar (pv 1)) (ac (aCons (xc (xCallB ok_len call_len rfl fr.len PySem.boot_len (ac (aCons (xVar (pv 16)) (aNil)) rfl rfl)) rfl rfl) (aNil)) rfl rfl)) rfl rfl) (aLenC (aLenC aLen0))) rfl rfl) (fun _ _ => rfl)) rfl rfl) (aNil)) rfl rfl)) rfl rfl) (fun ha => ps_par (i := 19) (j := 20) (by rfl) sc_law.nd rfl rfl (by decide) rfl rfl ha (by rfl))) (sCons (sSetC' (i := 21) (mc := false) (me := false) (own := [("pile", 14)]) (p := (.nm 14)) rfl sc_law.nd rfl rfl (sw_true rfl rfl rfl (by decide +kernel)) (ic (iSeq' (xVar (pv 7))) rfl rfl) (blkOk_by (by kernel_rfl)) (by decide) (fun _ _ _ _ _ => pgNm (pg_name (i := 14) sc_law.nd rfl (by first | exact Or.inl rfl | exact Or.inr rfl))) (fun _ _ _ _ _ => tsNil) (fun _ _ _ _ _ => xc (xCallTy ok_list call_list_of rfl fr.list boot_list (ac (aCons (xVar (pv 14)) (aNil)) rfl rfl)) rfl rfl) rfl rfl) (sCons (sSw rfl (rpl1 (pv 21) (xc (xIdx (xVar (pv 19)) (xInt) (fun _ _ => rfl)) rfl rfl) (fun _ _ => rfl)) (xc (xIdx (xVar (pv 19)) (xInt) (fun _ _ => rfl)) rfl rfl) (rpl1 (pv 21) (xc (xIdx (xVar (pv 20)) (xInt) (fun _ _ => rfl)) rfl rfl) (fun _ _ => rfl)) (xc (xIdx (xVar (pv 20)) (xInt) (fun _ _ => rfl)) rfl rfl) (ac (aCons (xc (xIdx (xc (xIdx (xVar (pv 21)) (xc (xIdx (xVar (pv 20)) (xInt) (fun _ _ => rfl)) rfl rfl) (fun _ _ => rfl)) rfl rfl) (xc (xIdx (xVar (pv 20)) (xInt) (fun _ _ => rfl)) rfl rfl) (fun _ _ => rfl)) rfl rfl) (ac (aCons (xc (xIdx (xc (xIdx (xVar (pv 21)) (xc (xIdx (xVar (pv 19)) (xInt) (fun _ _ => rfl)) rfl rfl) (fun _ _ => rfl)) rfl rfl) (xc (xIdx (xVar (pv 19)) (xInt) (fun _ _ => rfl)) rfl rfl) (fun _ _ => rfl)) rfl rfl) (aNil)) rfl rfl)) rfl rfl)) (sOne (sIf (tc (tNt (tc (tTru (xc (xCall h__law_same (hr.mono (by decide)) rfl (ac (aCons (xc (xCall h_is_won (hr.mono (by decide)) rfl (ac (aCons (xc (xCallTy ok_tuple call_tuple_of rfl fr.tuple boot_tuple (ac (aCons (xc (xComp (mc := false) (me := false) (own := [("row", 22)]) (p := (.nm 22)) rfl sc_law.nd (ic (iSeq' (xVar (pv 21))) rfl rfl) (blkOk_by (by kernel_rfl)) (by decide) (fun _ _ _ _ _ => pgNm (pg_name (i := 22) sc_law.nd rfl (by first | exact Or.inl rfl | exact Or.inr rfl))) (fun _ _ _ _ _ => tsNil) (fun _ _ _ _ _ => xc (xCallTy ok_tuple call_tuple_of rfl fr.tuple boot_tuple (ac (aCons (xVar (pv 22)) (aNil)) rfl rfl)) rfl rfl)) rfl rfl) (aNil)) rfl rfl)) rfl rfl) (aNil)) rfl rfl) (aLenC aLen0)) rfl rfl) (ac (aCons (xVar (pv 15)) (aNil)) rfl rfl)) rfl rfl) (aLenC (aLenC aLen0))) rfl rfl)) rfl rfl)) rfl rfl) (sOne (sRet (xBl))) (sNil)))))) (sNil))))))))))))) (sCons (sSet (i := 23) sc_law.nd rfl (by first | exact Or.inl rfl | exact Or.inr rfl) (xc (xCall h__law_piles (hr.mono (by decide)) rfl (ac (aCons (xVar (pv 1)) (ac (aCons (xInt) (ac (aCons (xInt) (aNil)) rfl rfl)) rfl rfl)) rfl rfl) (aLenC (aLenC (aLenC aLen0)))) rfl rfl)) (sOne (sRet (xc (xCall h__law_same (hr.mono (by decide)) rfl (ac (aCons (xc (xCall h_is_won (hr.mono (by decide)) rfl (ac (aCons (xVar (pv 23)) (aNil)) rfl rfl) (aLenC aLen0)) rfl rfl) (ac (aCons (xc (xCmp ok_eq (op_eqD hr.units) (xc (xIdx (xc (xCall h__law_played (hr.mono (by decide)) rfl (ac (aCons (xVar (pv 23)) (aNil)) rfl rfl) (aLenC aLen0)) rfl rfl) (xInt) (fun _ _ => rfl)) rfl rfl) (xc (xCallB ok_sum (cr_sum rfl) rfl fr.sum (by decide +kernel) (ac (aCons (xc (xComp (mc := false) (me := false) (own := [("pile", 14)]) (p := (.nm 14)) rfl sc_law.nd (ic (iSeq' (xVar (pv 23))) rfl rfl) (blkOk_by (by kernel_rfl)) (by decide) (fun _ _ _ _ _ => pgNm (pg_name (i := 14) sc_law.nd rfl (by first | exact Or.inl rfl | exact Or.inr rfl))) (fun _ _ _ _ _ => tsNil) (fun _ _ _ _ _ => xc (xCallB ok_len call_len rfl fr.len PySem.boot_len (ac (aCons (xVar (pv 14)) (aNil)) rfl rfl)) rfl rfl)) rfl rfl) (aNil)) rfl rfl)) rfl rfl) (nomark _)) rfl rfl) (aNil)) rfl rfl)) rfl rfl) (aLenC (aLenC aLen0))) rfl rfl))))))))))

end
end Law

set_option Elab.async false
set_option linter.all false
set_option maxRecDepth 100000
set_option autoImplicit false
set_option maxHeartbeats 4000000
namespace Law
open PySem PySem.Spec PyProof.Rows L2 Vv
def ll (xs : List (List Nat)) : PyData := .list (xs.map li)
def tt (xs : List (List Nat)) : PyData := .tuple (xs.map ti)
/-- the cards that are left, the pile, the piles played from -/
def walkN : Nat → List (List Nat) → Nat → List (List Nat) × Nat × List Nat
  | 0, left, a => (left, a, [])
  | n + 1, left, a => match left[a]? with
    | some (c :: r) => ((walkN n (left.set a r) c).1, (walkN n (left.set a r) c).2.1, a :: (walkN n (left.set a r) c).2.2)
    | _ => (left, a, [])
def total (left : List (List Nat)) : Nat := (left.map List.length).sum
def Fit (left : List (List Nat)) : Prop := ∀ p ∈ left, ∀ c ∈ p, c < left.length
theorem total_set {left : List (List Nat)} {a c : Nat} {r : List Nat} (e : left[a]? = some (c :: r)) : total left = total (left.set a r) + 1 := by
  induction left generalizing a with
  | nil => simp at e
  | cons x xs ih =>
    cases a with
    | zero =>
      simp at e; subst e
      simp [total]; omega
    | succ a =>
      have := ih (a := a) (by simpa using e)
      simp [total] at this ⊢
      omega
theorem Fit.set {left : List (List Nat)} {a c : Nat} {r : List Nat} (h : Fit left) (e : left[a]? = some (c :: r)) : Fit (left.set a r) ∧ c < (left.set a r).length := by
  have hm := List.mem_of_getElem? e
  refine ⟨fun p hp x hx => ?_, by rw [List.length_set]; exact h _ hm c List.mem_cons_self⟩
  rw [List.length_set]
  rcases List.mem_or_eq_of_mem_set hp with hp | rfl
  · exact h p hp x hx
  · exact h _ hm x (List.mem_cons_of_mem _ hx)
theorem bd_clock {left : List (List Nat)} {a c : Nat} {r found : List Nat} {P : PyData} {o : Bool} {w : Bw} (ha : a < left.length) (h : left[a] = c :: r) (hl : found.length < sizeLine) :
    b1_clock_play ⟨[some (.d P, o), some (.d (ll left), true), some (.d (.int (a : Int)), true), some (.d (li found), true), none], w⟩ =
      some (.nx ⟨[some (.d P, o), some (.d (ll (left.set a r)), true), some (.d (.int (c : Int)), true), some (.d (li (found ++ [a])), true), none], w⟩) := by
  have z : ixN ((c :: r).length) 0 = some 0 := ixNat (i := 0) (by simp)
  simp [b1_clock_play, ll, li, ixNat, ha, h, hl] at z ⊢
  simp [z]
theorem wh_clock : ∀ (n m : Nat) (left : List (List Nat)) (a : Nat) (found : List Nat) (P : PyData) (o : Bool) (w : Bw), total left ≤ n → n < m → Fit left → a < left.length → found.length + n < sizeLine →
    fWh (fTr (f2 pIdx false false (fVar 1) (fVar 2))) b1_clock_play m ⟨[some (.d P, o), some (.d (ll left), true), some (.d (.int (a : Int)), true), some (.d (li found), true), none], w⟩ =
      some (.nx ⟨[some (.d P, o), some (.d (ll (walkN n left a).1), true), some (.d (.int ((walkN n left a).2.1 : Int)), true), some (.d (li (found ++ (walkN n left a).2.2)), true), none], w⟩) := by
  intro n
  induction n with
  | zero =>
    intro m left a found P o w ht hm hf ha hl
    obtain ⟨m, rfl⟩ : ∃ k, m = k + 1 := ⟨m - 1, by omega⟩
    have : left[a] = [] := by
      have h2 : left[a].length ≤ total left := le_sum (List.mem_map.mpr ⟨_, List.getElem_mem ha, rfl⟩)
      exact List.eq_nil_of_length_eq_zero (by omega)
    rw [fWh_step]
    simp [ll, atN, ha, this, li, walkN]
  | succ n ih =>
    intro m left a found P o w ht hm hf ha hl
    obtain ⟨m, rfl⟩ : ∃ k, m = k + 1 := ⟨m - 1, by omega⟩
    rw [fWh_step]
    cases h : left[a] with
    | nil => simp [ll, atN, ha, h, li, walkN]
    | cons c r =>
      have e : left[a]? = some (c :: r) := by rw [List.getElem?_eq_getElem ha, h]
      obtain ⟨hf2, hc⟩ := hf.set e
      have := total_set e
      have ih' := ih m (left.set a r) c (found ++ [a]) P o w (by omega) (by omega) hf2 hc (by simp; omega)
      have hb := bd_clock (P := P) (o := o) (w := w) (found := found) ha h (by omega)
      have ht : fTr (f2 pIdx false false (fVar 1) (fVar 2)) (⟨[some (.d P, o), some (.d (ll left), true), some (.d (.int (a : Int)), true), some (.d (li found), true), none], w⟩ : S Bw) = some (true, ⟨[some (.d P, o), some (.d (ll left), true), some (.d (.int (a : Int)), true), some (.d (li found), true), none], w⟩) := by
        simp [ll, atN, ha, h, li]
      rw [ht]
      show bL (b1_clock_play _) _ = _
      rw [hb, bL_nx, ih', walkN, e]
      simp
@[simp] theorem imA_ti (xss : List (List Nat)) : imA (xss.map ti) = true := by
  rw [imA_iff]; intro x hx
  obtain ⟨n, _, rfl⟩ := List.mem_map.mp hx
  exact im_ti n
@[simp] theorem im_tt (xss : List (List Nat)) : im (tt xss) = true := imA_ti xss
def won (piles : List (List Nat)) : Nat := (walkN (total piles) piles 0).2.2.length
theorem F_clock_play_eq {piles : List (List Nat)} {w : Bw} (hf : Fit piles) (hne : 0 < piles.length) (hl : piles.length ≤ sizeLine) (hs : total piles < 1000000) :
    F_clock_play [.d (tt piles)] w = some (.d (ti (walkN (total piles) piles 0).2.2), true, w) := by
  have h1 : fComp [0] [4] (.nm 4) false (iSq (fVar 0)) fYes (fPr pList true (fCo false (fVar 4) fN)) (⟨[some (.d (tt piles), false), none, none, none, none], w⟩ : S Bw) = _ :=
    comp_mapT ti li (fun _ => true) piles (by simp [tt]) (fun x _ => by simp [turnE, wipeL]; simp [ti, li]) hl
  have h2 := wh_clock (total piles) fuel piles 0 [] (tt piles) false w (Nat.le_refl _) (by rw [fuel_eq]; exact hs) hf hne (by show 0 + total piles < 16777216; omega)
  unfold F_clock_play runF f_clock_play
  simp [initS, h1, ll, li, fWhile_ap, all_t] at h2 ⊢
  simp [h2, endF, ti]
theorem F_is_won_eq {piles : List (List Nat)} {w : Bw} (hf : Fit piles) (hne : 0 < piles.length) (hl : piles.length ≤ sizeLine) (hs : total piles < 1000000) :
    F_is_won [.d (tt piles)] w = some (.d (.bool (decide (won piles = total piles))), true, w) := by
  have h1 : fComp [0] [1] (.nm 1) false (iSq (fVar 0)) fYes (fPr pLen false (fCo false (fVar 1) fN)) (⟨[some (.d (tt piles), false), none], w⟩ : S Bw) = _ :=
    comp_mapT ti (fun x => .int (x.length : Nat)) (fun _ => true) piles (by simp [tt]) (fun x _ => by simp [turnE, wipeL]; simp [ti]) hl
  have h2 := F_clock_play_eq (w := w) hf hne hl hs
  rw [map_il] at h1
  have e : ((won piles : Int) == (total piles : Int)) = decide (won piles = total piles) := by
    rw [Bool.eq_iff_iff, beq_iff_eq, decide_eq_true_iff]; omega
  unfold F_is_won runF f_is_won
  simp [initS, h1, h2, ti]
  simp [endF]
  exact e
theorem bd_played {left : List (List Nat)} {a c k : Nat} {r found : List Nat} {P : PyData} {o : Bool} {w : Bw} (ha : a < left.length) (h : left[a] = c :: r) (hl : found.length < sizeLine) :
    b1__law_played ⟨[some (.d P, o), some (.d (ll left), true), some (.d (.int (a : Int)), true), some (.d (.int (k : Int)), true), none, some (.d (li found), true)], w⟩ =
      some (.nx ⟨[some (.d P, o), some (.d (ll (left.set a r)), true), some (.d (.int (c : Int)), true), some (.d (.int ((k + 1 : Nat) : Int)), true), none, some (.d (li (found ++ [a])), true)], w⟩) := by
  have z : ixN ((c :: r).length) 0 = some 0 := ixNat (i := 0) (by simp)
  simp [b1__law_played, ll, li, ixNat, ha, h, hl] at z ⊢
  simp [z]
theorem wh_played : ∀ (n m : Nat) (left : List (List Nat)) (a k : Nat) (found : List Nat) (P : PyData) (o : Bool) (w : Bw), total left ≤ n → n < m → Fit left → a < left.length → found.length + n < sizeLine →
    fWh (fB (f2 pNe false false (f2 pIdx false false (fVar 1) (fVar 2)) (fLst (fN)))) b1__law_played m ⟨[some (.d P, o), some (.d (ll left), true), some (.d (.int (a : Int)), true), some (.d (.int (k : Int)), true), none, some (.d (li found), true)], w⟩ =
      some (.nx ⟨[some (.d P, o), some (.d (ll (walkN n left a).1), true), some (.d (.int ((walkN n left a).2.1 : Int)), true), some (.d (.int ((k + (walkN n left a).2.2.length : Nat) : Int)), true), none, some (.d (li (found ++ (walkN n left a).2.2)), true)], w⟩) := by
  intro n
  induction n with
  | zero =>
    intro m left a k found P o w ht hm hf ha hl
    obtain ⟨m, rfl⟩ : ∃ k, m = k + 1 := ⟨m - 1, by omega⟩
    have : left[a] = [] := by
      have h2 : left[a].length ≤ total left := le_sum (List.mem_map.mpr ⟨_, List.getElem_mem ha, rfl⟩)
      exact List.eq_nil_of_length_eq_zero (by omega)
    have z := pNe_li_nil []
    rw [fWh_step]
    simp [ll, atN, ha, this, li, walkN] at z ⊢
    simp [z]
  | succ n ih =>
    intro m left a k found P o w ht hm hf ha hl
    obtain ⟨m, rfl⟩ : ∃ k, m = k + 1 := ⟨m - 1, by omega⟩
    rw [fWh_step]
    cases h : left[a] with
    | nil =>
      have z := pNe_li_nil []
      simp [ll, atN, ha, h, li, walkN] at z ⊢
      simp [z]
    | cons c r =>
      have e : left[a]? = some (c :: r) := by rw [List.getElem?_eq_getElem ha, h]
      obtain ⟨hf2, hc⟩ := hf.set e
      have := total_set e
      have ih' := ih m (left.set a r) c (k + 1) (found ++ [a]) P o w (by omega) (by omega) hf2 hc (by simp; omega)
      have hb := bd_played (k := k) (P := P) (o := o) (w := w) (found := found) ha h (by omega)
      have z := pNe_li_nil (c :: r)
      have ht : fB (f2 pNe false false (f2 pIdx false false (fVar 1) (fVar 2)) (fLst (fN))) (⟨[some (.d P, o), some (.d (ll left), true), some (.d (.int (a : Int)), true), some (.d (.int (k : Int)), true), none, some (.d (li found), true)], w⟩ : S Bw) = some (true, ⟨[some (.d P, o), some (.d (ll left), true), some (.d (.int (a : Int)), true), some (.d (.int (k : Int)), true), none, some (.d (li found), true)], w⟩) := by
        simp [ll, atN, ha, h, li] at z ⊢
        simp [z]
      rw [ht]
      show bL (b1__law_played _) _ = _
      rw [hb, bL_nx, ih', walkN, e]
      simp [Nat.add_assoc, Nat.add_comm, Nat.add_left_comm]
def tl (xs : List (List Nat)) : PyData := .list (xs.map ti)
theorem F_played_eq {piles : List (List Nat)} {w : Bw} (P : PyData) (hP : P = tt piles ∨ P = tl piles) (hf : Fit piles) (hne : 0 < piles.length) (hl : piles.length ≤ sizeLine) (hs : total piles < 1000000) :
    ∃ fr, F__law_played [.d P] w = some (.d (.tuple [.int (won piles : Int), .int ((walkN (total piles) piles 0).2.1 : Int), li (walkN (total piles) piles 0).2.2]), fr, w) := by
  have h1 : fComp [0] [4] (.nm 4) false (iSq (fVar 0)) fYes (fPr pList true (fCo false (fVar 4) fN)) (⟨[some (.d P, false), none, none, none, none, none], w⟩ : S Bw) = some (.d (ll piles), true, ⟨[some (.d P, false), none, none, none, none, none], w⟩) := by
    rcases hP with rfl | rfl
    · have := comp_mapT (m := [0]) (vs := [4]) (p := .nm 4) (fi := iSq (fVar 0)) (fe := fPr pList true (fCo false (fVar 4) fN)) (sl := [some (.d (tt piles), false), none, none, none, none, none]) (w := w) ti li (fun _ => true) piles (by simp [tt]) (fun x _ => by simp [turnE, wipeL]; simp [ti, li]) hl
      rw [this, all_t]; rfl
    · have := comp_mapF (m := [0]) (vs := [4]) (p := .nm 4) (fi := iSq (fVar 0)) (fe := fPr pList true (fCo false (fVar 4) fN)) (sl := [some (.d (tl piles), false), none, none, none, none, none]) (w := w) ti li (fun _ => true) piles (by simp [tl]) (fun x _ => by simp [turnE, wipeL]; simp [ti, li]) hl
      rw [this, all_t]; rfl
  have h2 := wh_played (total piles) fuel piles 0 0 [] P false w (Nat.le_refl _) (by rw [fuel_eq]; exact hs) hf hne (by show 0 + total piles < 16777216; omega)
  refine ⟨false, ?_⟩
  unfold F__law_played runF f__law_played
  simp [initS, h1, fWhile_ap]
  simp [ll, li] at h2 ⊢
  simp [h2]
  simp [endF, won]
end Law

set_option Elab.async false
set_option linter.all false
set_option maxRecDepth 100000
set_option autoImplicit false
set_option maxHeartbeats 4000000
namespace Law
open PySem PySem.Spec PyProof.Rows L2 Vv
/-! ### piles_from -/
def cutN : List Nat → List Nat → List (List Nat)
  | [], _ => []
  | s :: ss, cs => cs.take s :: cutN ss (cs.drop s)
theorem cutN_length : ∀ (ss cs : List Nat), (cutN ss cs).length = ss.length
  | [], _ => rfl
  | s :: ss, cs => by rw [cutN, List.length_cons, cutN_length, List.length_cons]
theorem fl_piles : ∀ (ss cards : List Nat) (a : Nat) (done : List (List Nat)) (P : PyData) (o : Bool) (s4 : Sl) (w : Bw), done.length + ss.length ≤ sizeLine →
    ∃ s4', fFl (.nm 4) b1_piles_from (il ss) ⟨[some (.d P, o), some (.d (ti cards), false), some (.d (tl done), true), some (.d (.int (a : Int)), true), s4], w⟩ =
      some (.nx ⟨[some (.d P, o), some (.d (ti cards), false), some (.d (tl (done ++ cutN ss (cards.drop a))), true), some (.d (.int ((a + ss.sum : Nat) : Int)), true), s4'], w⟩)
  | [], cards, a, done, P, o, s4, w, _ => ⟨s4, by simp [cutN]⟩
  | s :: ss, cards, a, done, P, o, s4, w, h => by
    rw [List.length_cons] at h
    obtain ⟨s4', ih⟩ := fl_piles ss cards (a + s) (done ++ [(cards.drop a).take s]) P o (some (.d (.int (s : Int)), true)) w (by simp; omega)
    refine ⟨s4', ?_⟩
    have z := cutD_nat (il cards) a (a + s)
    rw [cut_take] at z
    have e : turn (.nm 4) b1_piles_from (.int (s : Int)) (⟨[some (.d P, o), some (.d (ti cards), false), some (.d (tl done), true), some (.d (.int (a : Int)), true), s4], w⟩ : S Bw) = some (.nx ⟨[some (.d P, o), some (.d (ti cards), false), some (.d (tl (done ++ [(cards.drop a).take s])), true), some (.d (.int ((a + s : Nat) : Int)), true), some (.d (.int (s : Int)), true)], w⟩) := by
      have hl : done.length < sizeLine := by omega
      simp [turn, b1_piles_from, ti, tl] at z ⊢
      simp [z, hl]
    rw [il_cons, fFl_turn, e, bL_nx, ih]
    simp [cutN, Nat.add_assoc]
theorem F_piles_from_eq {ss cards : List Nat} {w : Bw} (h : ss.length ≤ sizeLine) : F_piles_from [.d (ti ss), .d (ti cards)] w = some (.d (tt (cutN ss cards)), true, w) := by
  obtain ⟨s4, e⟩ := fl_piles ss cards 0 [] (ti ss) false none w (by simpa using h)
  unfold F_piles_from runF f_piles_from
  simp [initS, fFor_ap]
  simp [tl, ti] at e ⊢
  simp [e, endF, tt]
/-! ### leads -/
def leadsN (piles : List (List Nat)) : List Nat := piles.map fun p => p.getLast?.getD 0
theorem atI_last (xs : List PyData) : L2.atI xs (-1) = xs.getLast? := by
  unfold L2.atI ixN
  rw [if_neg (by decide)]
  cases xs with
  | nil => rfl
  | cons x xs =>
    rw [if_pos (by simp only [List.length_cons]; omega), List.getLast?_eq_getElem?]
    show (x :: xs)[((-1 : Int) + ((x :: xs).length : Int)).toNat]? = _
    congr 1
    omega
theorem F_leads_eq {piles : List (List Nat)} {w : Bw} (hn : ∀ p ∈ piles, p ≠ []) (hl : piles.length ≤ sizeLine) : F_leads [.d (tt piles)] w = some (.d (ti (leadsN piles)), true, w) := by
  have h1 : fComp [0] [1] (.nm 1) false (iSq (fVar 0)) fYes (f2 pIdx false false (fVar 1) (f1 pNg false (fC (.int 1)))) (⟨[some (.d (tt piles), false), none], w⟩ : S Bw) = _ :=
    comp_mapT ti (fun p => .int (p.getLast?.getD 0 : Nat)) (fun _ => true) piles (by simp [tt]) (fun x hx => by
      have e : (il x).getLast? = some (.int (x.getLast?.getD 0 : Nat)) := by
        rw [getLast?_il, List.getLast?_eq_some_getLast (hn x hx)]; rfl
      have e2 : L2.atI (il x) (-1) = some (.int (x.getLast?.getD 0 : Nat)) := (atI_last _).trans e
      have e3 : pNg (.int 1) = some (.int (-1)) := rfl
      simp [turnE, wipeL, e3]; simp [ti, e2]) hl
  rw [map_il] at h1
  unfold F_leads runF f_leads
  simp [initS, h1]
  simp [endF, ti, leadsN]
/-! ### ring_from -/
theorem fresh_le {n : Nat} : ∀ {seen : List Nat}, seen.Nodup → (∀ x ∈ seen, x < n) → seen.length ≤ n := by
  intro seen hd h
  have : seen.length ≤ (List.range n).length := hd.length_le_of_subset fun x hx => List.mem_range.mpr (h x hx)
  simpa using this
theorem F_ring_from_ok {rows : List Nat} {p : Nat} {w : Bw} (hr : ∀ x ∈ rows, x < rows.length) (hp : p < rows.length) (hl : rows.length < 10000) : ∃ v fr, F_ring_from [.d (ti rows), .d (.int (p : Int))] w = some (.d v, fr, w) := by
  have lp := fWh_rel (c := fB (f2 (pIn true) false false (fVar 1) (fVar 2))) (b := b1_ring_from)
    (fun s => ∃ (p : Nat) (seen : List Nat) (o : Bool), p < rows.length ∧ seen.Nodup ∧ (∀ x ∈ seen, x < rows.length) ∧ s = ⟨[some (.d (ti rows), false), some (.d (.int (p : Int)), o), some (.d (li seen), true), none, none], w⟩)
    (fun s => ∃ (p : Nat) (seen : List Nat) (o : Bool), p ∈ seen ∧ seen.length ≤ rows.length ∧ s = ⟨[some (.d (ti rows), false), some (.d (.int (p : Int)), o), some (.d (li seen), true), none, none], w⟩)
    (fun (s : S Bw) => match s.sl[2]? with | some (some (R.d (PyData.list xs), _)) => rows.length - xs.length | _ => 0)
    (fun s hs => by
      obtain ⟨p, seen, o, hp, hd, hx, rfl⟩ := hs
      have hle := fresh_le hd hx
      by_cases hm : p ∈ seen
      · left
        refine ⟨_, ?_, p, seen, o, hm, hle, rfl⟩
        simp [li, hm]
      · right
        have hr1 : rows[p]? = some rows[p] := List.getElem?_eq_getElem hp
        have hle2 : (seen ++ [p]).length ≤ rows.length := fresh_le (n := rows.length) (by
          rw [List.nodup_append]; exact ⟨hd, by simp, fun a ha b hb => by simp at hb; subst hb; exact fun z => hm (z ▸ ha)⟩) (fun x hx' => by
          rcases List.mem_append.mp hx' with z | z
          · exact hx x z
          · simp at z; subst z; exact hp)
        simp at hle2
        refine ⟨⟨[some (.d (ti rows), false), some (.d (.int (p : Int)), o), some (.d (li seen), true), none, none], w⟩, ⟨[some (.d (ti rows), false), some (.d (.int (rows[p] : Int)), true), some (.d (li (seen ++ [p])), true), none, none], w⟩, ?_, ?_, ⟨rows[p], seen ++ [p], true, hr _ (List.getElem_mem hp), ?_, ?_, rfl⟩, ?_⟩
        · simp [li, hm]
        · have : seen.length < sizeLine := Nat.lt_of_lt_of_le (by omega : seen.length < 10000) (by decide)
          simp [b1_ring_from, li, ti, atN, this, hp]
        · rw [List.nodup_append]; exact ⟨hd, by simp, fun a ha b hb => by simp at hb; subst hb; exact fun z => hm (z ▸ ha)⟩
        · intro x hx'
          rcases List.mem_append.mp hx' with z | z
          · exact hx x z
          · simp at z; subst z; exact hp
        · simp [li]; omega)
    fuel ⟨[some (.d (ti rows), false), some (.d (.int (p : Int)), false), some (.d (li []), true), none, none], w⟩ ⟨p, [], false, hp, List.nodup_nil, fun _ h => (nomatch h), rfl⟩ (by
      have := fuel_eq
      simp [li]; omega)
  obtain ⟨s', e, q, seen, o, hm, hle, rfl⟩ := lp
  have hi := pIndexL_il hm
  have hlt := idxN_lt hm
  have hne : seen.drop (idxN q seen) ≠ [] := by intro z; have := congrArg List.length z; simp at this; omega
  have z1 := cutD_from (il seen) (idxN q seen)
  rw [il_drop] at z1
  have hbig : (seen.drop (idxN q seen)).length ≤ sizeLine := by
    have : 10000 ≤ sizeLine := by decide
    simp; omega
  generalize seen.drop (idxN q seen) = ring at hne z1 hbig
  obtain ⟨mn, hmn, emn⟩ := pMin_il hne
  have hi2 := pIndexL_il hmn
  have z2 := cutD_from (il ring) (idxN mn ring)
  have z3 := cutD_to (il ring) (idxN mn ring)
  have z4 := pAdd_list (x := il (ring.drop (idxN mn ring))) (y := il (ring.take (idxN mn ring))) (by simp; omega)
  refine ⟨ti (ring.drop (idxN mn ring) ++ ring.take (idxN mn ring)), true, ?_⟩
  unfold F_ring_from runF f_ring_from
  simp [initS, fWhile_ap]
  simp [li] at e
  simp [e, hi, z1, emn, hi2, z2, z3, z4]
  simp [endF, ti]
/-! ### clock_paper -/
def hop (rows : List Nat) : Nat → Nat → Nat
  | 0, a => a
  | k + 1, a => if a = 0 then 0 else hop rows k (rows[a]?.getD 0)
theorem rg_il (n : Nat) : rgI 0 n = il (List.range n) := by
  unfold rgI il
  exact List.map_congr_left fun i _ => by rw [Int.zero_add]
theorem wh_paper {rows : List Nat} {P : List PyData} {o : Bool} {f : Sl} {p : Sl} {w : Bw} (hr : ∀ x ∈ rows, x < rows.length) (hP : P.length = rows.length) : ∀ (k m a far : Nat) (o4 o5 : Bool), far + k = rows.length → k < m → a < rows.length →
    ∃ far' o4' o5', fWh (fAnd (fB (f2 pNe false false (fVar 4) (fC (.int 0)))) (fB (f2 pLt false false (fVar 5) (fPr pLen false (fCo false (fVar 0) (fN)))))) b1_clock_paper m ⟨[some (.d (.tuple P), o), some (.d (ti rows), true), f, p, some (.d (.int (a : Int)), o4), some (.d (.int (far : Int)), o5)], w⟩ =
      some (.nx ⟨[some (.d (.tuple P), o), some (.d (ti rows), true), f, p, some (.d (.int (hop rows k a : Int)), o4'), some (.d (.int (far' : Nat)), o5')], w⟩)
  | 0, m, a, far, o4, o5, h, hm, ha => by
    obtain ⟨m, rfl⟩ : ∃ k, m = k + 1 := ⟨m - 1, by omega⟩
    refine ⟨far, o4, o5, ?_⟩
    rw [fWh_step]
    have : ¬ ((far : Int) < (rows.length : Int)) := by omega
    by_cases h0 : a = 0
    · subst h0; simp [fAnd, hop]
    · have h0' : ((a : Int) == 0) = false := by rw [beq_eq_false_iff_ne]; omega
      simp [fAnd, hop, h0', hP, this]
  | k + 1, m, a, far, o4, o5, h, hm, ha => by
    obtain ⟨m, rfl⟩ : ∃ k, m = k + 1 := ⟨m - 1, by omega⟩
    rw [fWh_step]
    by_cases h0 : a = 0
    · subst h0
      refine ⟨far, o4, o5, ?_⟩
      simp [fAnd, hop]
    · have h0' : ((a : Int) == 0) = false := by rw [beq_eq_false_iff_ne]; omega
      have hlt : (far : Int) < (rows.length : Int) := by omega
      obtain ⟨far', o4', o5', ih⟩ := wh_paper (f := f) (p := p) (o := o) (w := w) hr hP k m rows[a] (far + 1) true true (by omega) (by omega) (hr _ (List.getElem_mem ha))
      refine ⟨far', o4', o5', ?_⟩
      have hb : b1_clock_paper (⟨[some (.d (.tuple P), o), some (.d (ti rows), true), f, p, some (.d (.int (a : Int)), o4), some (.d (.int (far : Int)), o5)], w⟩ : S Bw) = some (.nx ⟨[some (.d (.tuple P), o), some (.d (ti rows), true), f, p, some (.d (.int (rows[a] : Int)), true), some (.d (.int ((far + 1 : Nat) : Int)), true)], w⟩) := by
        simp [b1_clock_paper, ti, atN, ha]
      have ht : (fAnd (fB (f2 pNe false false (fVar 4) (fC (.int 0)))) (fB (f2 pLt false false (fVar 5) (fPr pLen false (fCo false (fVar 0) (fN)))))) (⟨[some (.d (.tuple P), o), some (.d (ti rows), true), f, p, some (.d (.int (a : Int)), o4), some (.d (.int (far : Int)), o5)], w⟩ : S Bw) = some (true, ⟨[some (.d (.tuple P), o), some (.d (ti rows), true), f, p, some (.d (.int (a : Int)), o4), some (.d (.int (far : Int)), o5)], w⟩) := by
        simp [fAnd, h0', hP, hlt]
      rw [ht]
      show bL (b1_clock_paper _) _ = _
      rw [hb, bL_nx, ih]
      simp [hop, h0, ha]
theorem hop_lt {rows : List Nat} (hr : ∀ x ∈ rows, x < rows.length) : ∀ (k a : Nat), a < rows.length → hop rows k a < rows.length
  | 0, a, h => h
  | k + 1, a, h => by
    rw [hop]
    split
    · omega
    · rw [List.getElem?_eq_getElem h]; exact hop_lt hr k _ (hr _ (List.getElem_mem h))
theorem turn_paper {rows found : List Nat} {P : List PyData} {o : Bool} {s3 s4 s5 : Sl} {w : Bw} {p : Nat} (hr : ∀ x ∈ rows, x < rows.length) (hP : P.length = rows.length) (hp : p < rows.length) (hl : rows.length < 10000) (hf : found.length < sizeLine) :
    (hop rows rows.length p = 0 → ∃ far s3' s4' s5', turn (.nm 3) b2_clock_paper (.int (p : Int)) (⟨[some (.d (.tuple P), o), some (.d (ti rows), true), some (.d (li found), true), s3, s4, s5], w⟩ : S Bw) = some (.nx ⟨[some (.d (.tuple P), o), some (.d (ti rows), true), some (.d (li (found ++ [far])), true), s3', s4', s5'], w⟩)) ∧
    (hop rows rows.length p ≠ 0 → ∃ v fr s', turn (.nm 3) b2_clock_paper (.int (p : Int)) (⟨[some (.d (.tuple P), o), some (.d (ti rows), true), some (.d (li found), true), s3, s4, s5], w⟩ : S Bw) = some (.rt (.d (.tuple [.str "ring", v])) fr s') ∧ s'.w = w) := by
  obtain ⟨far, o4, o5, e⟩ := wh_paper (f := some (.d (li found), true)) (p := some (.d (.int (p : Int)), true)) (o := o) (w := w) hr hP rows.length fuel p 0 true true (by omega) (by rw [fuel_eq]; omega) hp
  refine ⟨fun h => ⟨far, some (.d (.int (p : Int)), true), some (.d (.int 0), o4), some (.d (.int (far : Int)), o5), ?_⟩, fun h => ?_⟩
  · rw [h] at e
    simp [turn, b2_clock_paper, fWhile_ap]
    simp [li] at e
    simp [e, li, hf]
  · obtain ⟨v, fr, e2⟩ := F_ring_from_ok (w := w) hr hp hl
    have h' : ((hop rows rows.length p : Int) == 0) = false := by rw [beq_eq_false_iff_ne]; omega
    refine ⟨v, fr || im v, ⟨[some (.d (.tuple P), o), some (.d (ti rows), true), some (.d (li found), true), some (.d (.int (p : Int)), true), some (.d (.int (hop rows rows.length p : Int)), o4), some (.d (.int (far : Int)), o5)], w⟩, ?_, rfl⟩
    simp [turn, b2_clock_paper, fWhile_ap]
    simp [li] at e
    simp [e, li, h']
    simp [li, e2]
theorem fl_paper {rows : List Nat} {P : List PyData} {o : Bool} {w : Bw} (hr : ∀ x ∈ rows, x < rows.length) (hP : P.length = rows.length) (hl : rows.length < 10000) : ∀ (ps found : List Nat) (s3 s4 s5 : Sl), (∀ p ∈ ps, p < rows.length) → found.length + ps.length ≤ sizeLine →
    ((∀ p ∈ ps, hop rows rows.length p = 0) → ∃ found' s3' s4' s5', fFl (.nm 3) b2_clock_paper (il ps) (⟨[some (.d (.tuple P), o), some (.d (ti rows), true), some (.d (li found), true), s3, s4, s5], w⟩ : S Bw) = some (.nx ⟨[some (.d (.tuple P), o), some (.d (ti rows), true), some (.d (li found'), true), s3', s4', s5'], w⟩)) ∧
    ((¬ ∀ p ∈ ps, hop rows rows.length p = 0) → ∃ v fr s', fFl (.nm 3) b2_clock_paper (il ps) (⟨[some (.d (.tuple P), o), some (.d (ti rows), true), some (.d (li found), true), s3, s4, s5], w⟩ : S Bw) = some (.rt (.d (.tuple [.str "ring", v])) fr s') ∧ s'.w = w)
  | [], found, s3, s4, s5, _, _ => ⟨fun _ => ⟨found, s3, s4, s5, rfl⟩, fun h => absurd (fun p hp => (nomatch hp)) h⟩
  | p :: ps, found, s3, s4, s5, hps, hf => by
    rw [List.length_cons] at hf
    obtain ⟨t1, t2⟩ := turn_paper (found := found) (o := o) (s3 := s3) (s4 := s4) (s5 := s5) (w := w) hr hP (hps p List.mem_cons_self) hl (by omega)
    by_cases h0 : hop rows rows.length p = 0
    · obtain ⟨far, s3', s4', s5', e⟩ := t1 h0
      obtain ⟨i1, i2⟩ := fl_paper hr hP hl ps (found ++ [far]) s3' s4' s5' (fun x hx => hps x (List.mem_cons_of_mem _ hx)) (by simp; omega)
      rw [il_cons, fFl_turn, e, bL_nx]
      refine ⟨fun h => i1 fun x hx => h x (List.mem_cons_of_mem _ hx), fun h => i2 fun z => h fun x hx => ?_⟩
      rcases List.mem_cons.mp hx with rfl | hx
      · exact h0
      · exact z x hx
    · obtain ⟨v, fr, s', e, hw⟩ := t2 h0
      rw [il_cons, fFl_turn, e, bL_rt]
      exact ⟨fun h => absurd (h p List.mem_cons_self) h0, fun _ => ⟨v, fr, s', rfl, hw⟩⟩
def tree (rows : List Nat) : Bool := decide (∀ p ∈ List.range rows.length, hop rows rows.length p = 0)
theorem F_clock_paper_eq {piles : List (List Nat)} {w : Bw} (hf : Fit piles) (hn : ∀ p ∈ piles, p ≠ []) (hl : piles.length < 10000) : ∃ v fr, F_clock_paper [.d (tt piles)] w = some (.d (.tuple [.str (if tree (leadsN piles) then "tree" else "ring"), v]), fr, w) := by
  have hl' : piles.length ≤ sizeLine := Nat.le_trans (Nat.le_of_lt hl) (by decide)
  have e1 := F_leads_eq (w := w) hn hl'
  have hlen : (leadsN piles).length = piles.length := List.length_map ..
  have hr : ∀ x ∈ leadsN piles, x < (leadsN piles).length := by
    intro x hx
    rw [hlen]
    obtain ⟨p, hp, rfl⟩ := List.mem_map.mp hx
    rw [List.getLast?_eq_some_getLast (hn p hp)]
    exact hf p hp _ (List.getLast_mem _)
  obtain ⟨i1, i2⟩ := fl_paper (o := false) (w := w) (P := piles.map ti) hr (by rw [List.length_map, hlen]) (by rw [hlen]; exact hl) (List.range (leadsN piles).length) [] none none none (fun p hp => List.mem_range.mp hp) (by simp; omega)
  have hb : rgB (piles.length : Int) = true := by unfold rgB; rw [decide_eq_true_iff]; omega
  have e1' : F_leads [R.d (PyData.tuple (piles.map ti))] w = some (.d (ti (leadsN piles)), true, w) := e1
  unfold F_clock_paper runF f_clock_paper
  by_cases ht : tree (leadsN piles) = true
  · obtain ⟨found', s3, s4, s5, e⟩ := i1 (of_decide_eq_true ht)
    refine ⟨ti found', true, ?_⟩
    rw [hlen] at e
    simp [li] at e
    simp -implicitDefEqProofs [initS, e1', fFor_ap, tt, hb, rg_il, e, ht]
    simp -implicitDefEqProofs [endF, li, ti]
  · obtain ⟨v, fr, s', e, hw⟩ := i2 (fun z => ht (decide_eq_true z))
    refine ⟨v, fr, ?_⟩
    rw [hlen] at e
    simp [li] at e
    simp -implicitDefEqProofs [initS, e1', fFor_ap, tt, hb, rg_il, e, ht]
    simp -implicitDefEqProofs [endF, hw]
end Law

set_option Elab.async false
set_option linter.all false
set_option maxRecDepth 100000
set_option autoImplicit false
set_option maxHeartbeats 4000000
namespace Law
open PySem PySem.Spec PyProof.Rows L2 Vv
theorem F_same_bool (a b : Bool) (w : Bw) : ∃ fr, F__law_same [.d (.bool a), .d (.bool b)] w = some (.d (.bool (a == b)), fr, w) := by
  cases a <;> cases b <;> exact ⟨true, by kernel_rfl⟩
/-! ### the ways -/
def restN (counts : List Nat) (k : Nat) : List Nat := counts.take k ++ [counts.getD k 0 - 1] ++ counts.drop (k + 1)
def waysN : Nat → List Nat → List (List Nat)
  | 0, _ => []
  | d + 1, counts => if counts.sum = 0 then [[]] else (List.range counts.length).flatMap fun k => if 0 < counts.getD k 0 then (waysN d (restN counts k)).map (k :: ·) else []
theorem restN_length {counts : List Nat} {k : Nat} (h : k < counts.length) : (restN counts k).length = counts.length := by
  unfold restN; simp; omega
theorem restN_sum {counts : List Nat} {k : Nat} (h : k < counts.length) (h0 : 0 < counts.getD k 0) : (restN counts k).sum + 1 = counts.sum := by
  have e : counts = counts.take k ++ (counts.getD k 0 :: counts.drop (k + 1)) := by
    rw [List.getD_eq_getElem?_getD, List.getElem?_eq_getElem h]
    simp
  have e2 : counts.sum = (counts.take k).sum + (counts.getD k 0 + (counts.drop (k + 1)).sum) := by
    conv => lhs; rw [e]
    rw [List.sum_append, List.sum_cons]
  rw [e2]
  unfold restN
  rw [List.sum_append, List.sum_append, List.sum_cons, List.sum_nil]
  omega
theorem flat_le {α β : Type} (f : α → List β) (n : Nat) : ∀ (ks : List α), (∀ k ∈ ks, (f k).length ≤ n) → (ks.flatMap f).length ≤ ks.length * n
  | [], _ => by simp
  | k :: ks, h => by
    rw [List.flatMap_cons, List.length_append, List.length_cons, Nat.succ_mul]
    have h1 := h k List.mem_cons_self
    have h2 := flat_le f n ks fun x hx => h x (List.mem_cons_of_mem _ hx)
    omega
theorem waysN_le : ∀ (d : Nat) (counts : List Nat), counts.length ≤ 3 → (waysN d counts).length ≤ 3 ^ d
  | 0, counts, _ => by simp [waysN]
  | d + 1, counts, h => by
    rw [waysN]
    split
    · simp; exact Nat.pos_of_ne_zero (by simp)
    · refine Nat.le_trans (flat_le _ (3 ^ d) _ fun k hk => ?_) (by rw [List.length_range, Nat.pow_succ, Nat.mul_comm]; exact Nat.mul_le_mul_left _ h)
      split
      · rw [List.length_map]; exact waysN_le d _ (by rw [restN_length (List.mem_range.mp hk)]; exact h)
      · simp
theorem turn_ways {G : FF Bw} {counts : List Nat} {found ws : List (List Nat)} {k : Nat} {o : Bool} {s2 s3 : Sl} {w : Bw} (hk : k < counts.length) (hc : counts.length ≤ 3) (hG : 0 < counts.getD k 0 → ∃ fr, G [.d (li (restN counts k))] w = some (.d (tl ws), fr, w)) (hx : ∀ x ∈ ws, x.length ≤ 1000) (hl : found.length + ws.length ≤ sizeLine) :
    ∃ s2' s3', turn (.nm 2) (b1__law_ways G) (.int (k : Int)) (⟨[some (.d (li counts), o), some (.d (tl found), true), s2, s3, none], w⟩ : S Bw) = some (.nx ⟨[some (.d (li counts), o), some (.d (tl (found ++ if 0 < counts.getD k 0 then ws.map (k :: ·) else [])), true), s2', s3', none], w⟩) := by
  have e0 : counts.getD k 0 = counts[k] := by rw [List.getD_eq_getElem?_getD, List.getElem?_eq_getElem hk]; rfl
  by_cases h0 : 0 < counts.getD k 0
  · obtain ⟨fr, e⟩ := hG h0
    have h0' : 0 < counts[k] := e0 ▸ h0
    have h0i : (0 : Int) < (counts[k] : Int) := by omega
    refine ⟨some (.d (.int (k : Int)), true), some (.d (li (restN counts k)), true), ?_⟩
    have z1 := cutD_to (il counts) k
    have z2 := cutD_from (il counts) (k + 1)
    have z3 := pAdd_list (x := il (counts.take k)) (y := [PyData.int ((counts[k] : Int) - 1)]) (by
      have : 5 ≤ sizeLine := by decide
      simp; omega)
    have z4 := pAdd_list (x := il (counts.take k) ++ [PyData.int ((counts[k] : Int) - 1)]) (y := il (counts.drop (k + 1))) (by
      have : 10 ≤ sizeLine := by decide
      simp; omega)
    have z5 : il (counts.take k) ++ [PyData.int ((counts[k] : Int) - 1)] ++ il (counts.drop (k + 1)) = il (restN counts k) := by
      unfold restN
      rw [il_append, il_append, e0]
      congr 2
      show [PyData.int _] = [PyData.int _]
      congr 2
      omega
    rw [z5] at z4
    have hcomp : fComp [3] [4] (.nm 4) false (iSq (fCall G (fCo false (fVar 3) (fN)))) (fYes) (f2 pAdd true false (fTup (fCo false (fVar 2) (fN))) (fVar 4)) (⟨[some (.d (li counts), o), some (.d (tl found), true), some (.d (.int (k : Int)), true), some (.d (li (restN counts k)), true), none], w⟩ : S Bw) = some (.d (tl (ws.map (k :: ·))), true, ⟨[some (.d (li counts), o), some (.d (tl found), true), some (.d (.int (k : Int)), true), some (.d (li (restN counts k)), true), none], w⟩) := by
      have hw : ws.length ≤ sizeLine := by omega
      have ht : ∀ x ∈ ws, pAdd (.tuple [.int (k : Int)]) (.tuple (il x)) = some (ti (k :: x)) := fun x hxm => by
        have := hx x hxm
        have hz : 1001 ≤ sizeLine := by decide
        rw [pAdd_tuple (by simp; omega)]; rfl
      have hm : ws.map (fun x => ti (k :: x)) = (ws.map (k :: ·)).map ti := by rw [List.map_map]; rfl
      cases fr with
      | true =>
        have := comp_mapT (m := [3]) (vs := [4]) (p := .nm 4) (fi := iSq (fCall G (fCo false (fVar 3) (fN)))) (fe := f2 pAdd true false (fTup (fCo false (fVar 2) (fN))) (fVar 4)) (sl := [some (.d (li counts), o), some (.d (tl found), true), some (.d (.int (k : Int)), true), some (.d (li (restN counts k)), true), none]) (w := w) ti (fun x => ti (k :: x)) (fun _ => true) ws (by simp -implicitDefEqProofs [e]; simp [tl]) (fun x hxm => by simp [turnE, wipeL]; simp [ti]; rw [ht x hxm]; simp [ti]) hw
        rw [this, all_t, hm]; rfl
      | false =>
        have := comp_mapF (m := [3]) (vs := [4]) (p := .nm 4) (fi := iSq (fCall G (fCo false (fVar 3) (fN)))) (fe := f2 pAdd true false (fTup (fCo false (fVar 2) (fN))) (fVar 4)) (sl := [some (.d (li counts), o), some (.d (tl found), true), some (.d (.int (k : Int)), true), some (.d (li (restN counts k)), true), none]) (w := w) ti (fun x => ti (k :: x)) (fun _ => true) ws (by simp -implicitDefEqProofs [e]; simp [tl]) (fun x hxm => by simp [turnE, wipeL]; simp [ti]; rw [ht x hxm]; simp [ti]) hw
        rw [this, all_t, hm]; rfl
    simp at z1 z2
    simp [turn, b1__law_ways, li, atN, hk, h0i]
    simp [z1, z2, z3, z4, li]
    simp [li] at hcomp
    simp [tl] at hcomp ⊢
    simp [hcomp, hl, h0']
  · have h0i : ¬ (0 : Int) < (counts[k] : Int) := by omega
    refine ⟨some (.d (.int (k : Int)), true), s3, ?_⟩
    have h0' : ¬ 0 < counts[k] := e0 ▸ h0
    have h0'' : counts[k] = 0 := by omega
    simp [turn, b1__law_ways, li, atN, hk, h0i, h0'']
theorem waysN_len : ∀ (d : Nat) (counts way : List Nat), way ∈ waysN d counts → way.length = counts.sum
  | 0, counts, way, h => by cases h
  | d + 1, counts, way, h => by
    rw [waysN] at h
    split at h
    · rename_i h0
      have : way = [] := by simpa using h
      rw [this, h0]; rfl
    · obtain ⟨k, hk, h⟩ := List.mem_flatMap.mp h
      have hk := List.mem_range.mp hk
      split at h
      · rename_i h0
        obtain ⟨r, hr, rfl⟩ := List.mem_map.mp h
        have := waysN_len d _ r hr
        have := restN_sum hk h0
        rw [List.length_cons]; omega
      · cases h
theorem fl_ways {G : FF Bw} {d : Nat} {counts : List Nat} {o : Bool} {w : Bw} (hc : counts.length ≤ 3) (hd : d ≤ 10) (hs : counts.sum ≤ 1000) (hG : ∀ k, k < counts.length → 0 < counts.getD k 0 → ∃ fr, G [.d (li (restN counts k))] w = some (.d (tl (waysN d (restN counts k))), fr, w)) : ∀ (ks : List Nat) (found : List (List Nat)) (s2 s3 : Sl), (∀ k ∈ ks, k < counts.length) → found.length + ks.length * 3 ^ d ≤ sizeLine →
    ∃ s2' s3', fFl (.nm 2) (b1__law_ways G) (il ks) (⟨[some (.d (li counts), o), some (.d (tl found), true), s2, s3, none], w⟩ : S Bw) = some (.nx ⟨[some (.d (li counts), o), some (.d (tl (found ++ ks.flatMap fun k => if 0 < counts.getD k 0 then (waysN d (restN counts k)).map (k :: ·) else [])), true), s2', s3', none], w⟩)
  | [], found, s2, s3, _, _ => ⟨s2, s3, by simp⟩
  | k :: ks, found, s2, s3, hk, hl => by
    have hk0 := hk k List.mem_cons_self
    have hw : (waysN d (restN counts k)).length ≤ 3 ^ d := waysN_le d _ (by rw [restN_length hk0]; exact hc)
    rw [List.length_cons, Nat.succ_mul] at hl
    obtain ⟨s2', s3', e⟩ := turn_ways (G := G) (found := found) (ws := waysN d (restN counts k)) (o := o) (s2 := s2) (s3 := s3) (w := w) hk0 hc (hG k hk0) (fun x hx => by
      have h1 := waysN_len d _ x hx
      have : (restN counts k).sum ≤ 1000 := by
        by_cases h0 : 0 < counts.getD k 0
        · have := restN_sum hk0 h0; omega
        · have e0 : counts.getD k 0 = 0 := by omega
          unfold restN
          rw [e0]
          simp
          have : counts.sum = (counts.take k).sum + (counts.drop k).sum := by rw [← List.sum_append, List.take_append_drop]
          have e3 : (counts.drop k).sum = counts[k] + (counts.drop (k + 1)).sum := by rw [List.drop_eq_getElem_cons hk0, List.sum_cons]
          omega
      omega) (by omega)
    obtain ⟨s2'', s3'', e2⟩ := fl_ways hc hd hs hG ks (found ++ if 0 < counts.getD k 0 then (waysN d (restN counts k)).map (k :: ·) else []) s2' s3' (fun x hx => hk x (List.mem_cons_of_mem _ hx)) (by
      rw [List.length_append]
      split
      · rw [List.length_map]; omega
      · simp; omega)
    refine ⟨s2'', s3'', ?_⟩
    rw [il_cons, fFl_turn, e, bL_nx, e2, List.flatMap_cons, List.append_assoc]
theorem F_ways_eq : ∀ (d : Nat) (counts : List Nat) (w : Bw), counts.length ≤ 3 → counts.sum < d → d ≤ 10 → ∃ fr, itF 5 f__law_ways d [.d (li counts)] w = some (.d (tl (waysN d counts)), fr, w)
  | 0, counts, w, _, h, _ => absurd h (Nat.not_lt_zero _)
  | d + 1, counts, w, hc, hs, hd => by
    have hcl : ((counts.sum : Int) == 0) = decide (counts.sum = 0) := by
      rw [Bool.eq_iff_iff, beq_iff_eq, decide_eq_true_iff]; omega
    rw [itF]
    generalize hGd : itF 5 f__law_ways d = G
    unfold runF f__law_ways
    by_cases h0 : counts.sum = 0
    · refine ⟨true, ?_⟩
      simp -implicitDefEqProofs [initS, li, h0]
      simp [endF, waysN, h0, tl, ti]
    · obtain ⟨s2, s3, e⟩ := fl_ways (G := itF 5 f__law_ways d) (d := d) (o := false) (w := w) hc (by omega) (by omega) (fun k hk h0 => F_ways_eq d _ w (by rw [restN_length hk]; exact hc) (by have := restN_sum hk h0; omega) (by omega)) (List.range counts.length) [] none none (fun k hk => List.mem_range.mp hk) (by
        have h1 : 3 ^ d ≤ 3 ^ 10 := Nat.pow_le_pow_right (by decide) (by omega)
        have h2 : 3 * 3 ^ 10 ≤ sizeLine := by decide
        have h3 : counts.length * 3 ^ d ≤ 3 * 3 ^ 10 := Nat.mul_le_mul hc h1
        simp; omega)
      have hb : rgB (counts.length : Int) = true := by unfold rgB; rw [decide_eq_true_iff]; omega
      refine ⟨false, ?_⟩
      rw [hGd] at e
      simp [li, tl] at e
      simp -implicitDefEqProofs [initS, li, h0, hcl, fFor_ap, hb, rg_il, e]
      simp -implicitDefEqProofs [endF, waysN, h0, tl]
end Law

set_option Elab.async false
set_option linter.all false
set_option maxRecDepth 100000
set_option autoImplicit false
set_option maxHeartbeats 4000000
namespace Law
open PySem PySem.Spec PyProof.Rows L2 Vv
def sizesL : List (List Nat) := ([1, 2, 3].map fun a => [a]) ++ ([1, 2, 3].flatMap fun a => [1, 2, 3].map fun b => [a, b]) ++ (([1, 2, 3].flatMap fun a => [1, 2, 3].flatMap fun b => [1, 2, 3].map fun c => [a, b, c]).filter fun s => decide (s.sum ≤ 7))
def wonW (s way : List Nat) : Bool := decide (won (cutN s way) = way.length)
theorem chance_all : (sizesL.all fun s => decide (((waysN 10 s).filter (wonW s)).length * s.sum = (waysN 10 s).length * s.getD 0 0)) = true := by decide +kernel
theorem fair_all : (sizesL.all fun s => (waysN 10 s).all fun way => decide (way.length = s.sum) && ((List.range 3).all fun k => decide (way.count k = s.getD k 0)) && way.all fun x => decide (x < s.length)) = true := by decide +kernel
end Law

set_option Elab.async false
set_option linter.all false
set_option maxRecDepth 100000
set_option autoImplicit false
set_option maxHeartbeats 4000000
/-! comprehensions that draw -/
namespace Vv
open PySem PySem.Spec PyProof.Rows L2
theorem fLc_draw {α β : Type} {Ok : β → Prop} {vs : List Nat} {p : Pat} {mu : Bool} {fe : EF β} (g : α → PyData) (Q : α → Prop) {sl : List Sl} : ∀ (ds : List PyData) (w : β), (∀ d ∈ ds, ∀ w, Ok w → ∃ x w', rw3 (turnE vs p fe d ⟨sl, w⟩) = some (.d (g x), true, w') ∧ Q x ∧ Ok w') → Ok w →
    ∃ (xs : List α) (w' : β), fLc vs p false fYes fe ds ⟨sl, w⟩ = some (xs.map (fun x => (.d (g x), true)), ⟨sl, w'⟩) ∧ xs.length = ds.length ∧ (∀ x ∈ xs, Q x) ∧ Ok w'
  | [], w, _, h => ⟨[], w, rfl, rfl, fun _ h => (nomatch h), h⟩
  | d :: ds, w, H, h => by
    obtain ⟨x, w1, e, q, o1⟩ := H d List.mem_cons_self w h
    obtain ⟨xs, w2, e2, hl, hq, o2⟩ := fLc_draw (mu := mu) g Q ds w1 (fun y hy => H y (List.mem_cons_of_mem _ hy)) o1
    obtain ⟨s3, e3, hw⟩ := rw3_some e
    refine ⟨x :: xs, w2, ?_, by simp [hl], fun y hy => ?_, o2⟩
    · rw [fLc]
      unfold turnE at e3
      cases e1 : bindP p (.d d) false (wipeS vs ⟨sl, w⟩) with
      | none => rw [e1] at e3; cases e3
      | some s1 =>
        rw [e1] at e3
        have e3 : fe s1 = some (.d (g x), true, s3) := e3
        show bE (fe s1) _ = _
        rw [e3]
        show gd (!false || true) (bA (fLc vs p false fYes fe ds ⟨sl, s3.w⟩) _) = _
        rw [hw, e2]
        rfl
    · rcases List.mem_cons.mp hy with rfl | hy
      · exact q
      · exact hq y hy
theorem comp_draw {α β : Type} {Ok : β → Prop} {m vs : List Nat} {p : Pat} {fi : IF β} {fe : EF β} {st : S β} (g : α → PyData) (Q : α → Prop) {sl : List Sl} {w : β} {ds : List PyData} (hi : fi st = some (ds, true, ⟨sl, w⟩))
    (H : ∀ d ∈ ds, ∀ w, Ok w → ∃ x w', rw3 (turnE vs p fe d ⟨sl, w⟩) = some (.d (g x), true, w') ∧ Q x ∧ Ok w') (hw : Ok w) (hl : ds.length ≤ sizeLine) : ∃ (xs : List α) (w' : β), fComp m vs p false fi fYes fe st = some (.d (.list (xs.map g)), true, ⟨sl, w'⟩) ∧ xs.length = ds.length ∧ (∀ x ∈ xs, Q x) ∧ Ok w' := by
  obtain ⟨xs, w', e, h1, h2, h3⟩ := fLc_draw (mu := false) g Q ds w H hw
  refine ⟨xs, w', ?_, h1, h2, h3⟩
  rw [fComp_ap, hi, bI_some]
  show gd true (bA (fLc vs p false fYes fe ds ⟨sl, w⟩) _) = _
  rw [gd_t, e]
  show (match toDs (xs.map fun x => (R.d (g x), (fun _ => true) x)) with | some es => _ | none => none) = _
  rw [toDs_map]
  show gd (decide ((xs.map fun x => (R.d (g x), (fun _ => true) x)).length ≤ sizeLine)) _ = _
  rw [List.length_map, h1, decide_eq_true hl, gd_t, all_map, all_t]
  rfl
theorem F_draw_int {w : Bw} {m : Int} (h0 : 0 < m) (h1 : m < 1073741824) (hw : w.Ok) : ∃ (d : Nat) (w' : Bw), F_draw [.box, .d (.int m)] w = some (.d (.int (d : Int)), true, w') ∧ (d : Int) < m ∧ w'.Ok := by
  obtain ⟨a, b, c⟩ := drawB_ok (m := m) hw (by omega)
  refine ⟨(drawB w m).1.toNat, (drawB w m).2, ?_, by omega, c⟩
  unfold F_draw
  show gd (decide ((0 : Int) < m) && decide (m < 1073741824)) _ = _
  rw [decide_eq_true (by omega), decide_eq_true (by omega)]
  show some _ = some _
  rw [Int.toNat_of_nonneg a]
theorem F_draw_eq {w : Bw} {m : Nat} (h0 : 0 < m) (h1 : m < 1073741824) (hw : w.Ok) : ∃ (d : Nat) (w' : Bw), F_draw [.box, .d (.int (m : Int))] w = some (.d (.int (d : Int)), true, w') ∧ d < m ∧ w'.Ok := by
  obtain ⟨d, w', e, h, o⟩ := F_draw_int (m := (m : Int)) (by omega) (by omega) hw
  exact ⟨d, w', e, by omega, o⟩
end Vv
namespace Law
open PySem PySem.Spec PyProof.Rows L2 Vv
/-- the slots of the law: sizes, turn, ways, won, then the others -/
def lS (sz tn wy wn : Sl) (x : List Sl) (w : Bw) : S Bw := ⟨none :: some (.box, true) :: sz :: tn :: wy :: wn :: x, w⟩
def nones (n : Nat) : List Sl := List.replicate n none
theorem law_sizes (w : Bw) (hw : w.Ok) : ∃ (sizes : List Nat) (w' : Bw), w'.Ok ∧ sizes.length ≤ 3 ∧ 0 < sizes.length ∧ (∀ x ∈ sizes, 1 ≤ x ∧ x ≤ 3) ∧
    fAsg [1, 1] (.nm 2) (fComp [1] [3] (.nm 3) false (iR1 (fCo false (f2 pAdd true false (fC (.int 1)) (fCall F__law_draw (fCo false (fVar 1) (fCo false (fC (.int 3)) (fN))))) (fN))) (fYes) (f2 pAdd true false (fC (.int 1)) (fCall F__law_draw (fCo false (fVar 1) (fCo false (fC (.int 3)) (fN)))))) (lawS 22 w) = some (.nx (lS (some (.d (li sizes), true)) none none none (nones 18) w')) := by
  obtain ⟨d, w1, e1, hd, o1⟩ := F_draw_int (m := 3) (by decide) (by decide) hw
  obtain ⟨xs, w2, e2, hl, hq, o2⟩ := comp_draw (Ok := Bw.Ok) (m := [1]) (vs := [3]) (p := .nm 3) (fi := iR1 (fCo false (f2 pAdd true false (fC (.int 1)) (fCall F__law_draw (fCo false (fVar 1) (fCo false (fC (.int 3)) (fN))))) (fN))) (fe := f2 pAdd true false (fC (.int 1)) (fCall F__law_draw (fCo false (fVar 1) (fCo false (fC (.int 3)) (fN))))) (st := lawS 22 w) ni (fun x => 1 ≤ x ∧ x ≤ 3) (sl := (lawS 22 w).sl) (w := w1) (ds := il (List.range (1 + d)))
    (by
      have hb : rgB (1 + (d : Int)) = true := by unfold rgB; rw [decide_eq_true_iff]; omega
      have hn : (1 + (d : Int)).toNat = 1 + d := by omega
      simp -implicitDefEqProofs [lawS]
      simp -implicitDefEqProofs [F__law_draw, e1, hb, rg_il, hn])
    (fun k hk w hw => by
      obtain ⟨d', w', e', hd', o'⟩ := F_draw_int (m := 3) (by decide) (by decide) hw
      refine ⟨1 + d', w', ?_, by omega, o'⟩
      obtain ⟨i, _, rfl⟩ := List.mem_map.mp hk
      simp -implicitDefEqProofs [lawS, turnE, wipeL]
      simp -implicitDefEqProofs [F__law_draw, e', ni]) o1 (by simp; exact Nat.le_trans (by omega : _ ≤ 4) (by decide))
  refine ⟨xs, w2, o2, by rw [hl]; simp; omega, by rw [hl]; simp; omega, hq, ?_⟩
  rw [fAsg_ap, e2]
  rfl
end Law

set_option Elab.async false
set_option linter.all false
set_option maxRecDepth 100000
set_option autoImplicit false
set_option maxHeartbeats 4000000
namespace Law
open PySem PySem.Spec PyProof.Rows L2 Vv
theorem law_trim (w : Bw) (sizes : List Nat) (h3 : sizes.length ≤ 3) (h0 : 0 < sizes.length) (hq : ∀ x ∈ sizes, 1 ≤ x ∧ x ≤ 3) : ∃ (s2 : List Nat) (o : Bool), s2.length ≤ 3 ∧ 0 < s2.length ∧ (∀ x ∈ s2, 1 ≤ x ∧ x ≤ 3) ∧ s2.sum ≤ 7 ∧
    fWhile (fB (f2 pGt false false (fPr pSum false (fCo false (fVar 2) (fN))) (fC (.int 7)))) b6_law (lS (some (.d (li sizes), true)) none none none (nones 18) w) = some (.nx (lS (some (.d (li s2), o)) none none none (nones 18) w)) := by
  obtain ⟨s', e, q⟩ := fWh_rel (c := fB (f2 pGt false false (fPr pSum false (fCo false (fVar 2) (fN))) (fC (.int 7)))) (b := b6_law)
    (fun s => ∃ (s2 : List Nat) (o : Bool), s2.length ≤ 3 ∧ 0 < s2.length ∧ (∀ x ∈ s2, 1 ≤ x ∧ x ≤ 3) ∧ s = lS (some (.d (li s2), o)) none none none (nones 18) w)
    (fun s => ∃ (s2 : List Nat) (o : Bool), s2.length ≤ 3 ∧ 0 < s2.length ∧ (∀ x ∈ s2, 1 ≤ x ∧ x ≤ 3) ∧ s2.sum ≤ 7 ∧ s = lS (some (.d (li s2), o)) none none none (nones 18) w)
    (fun (s : S Bw) => match s.sl[2]? with | some (some (R.d (PyData.list xs), _)) => xs.length | _ => 0)
    (fun s ⟨s2, o, a, b, c, e⟩ => by
      subst e
      by_cases h7 : s2.sum ≤ 7
      · left
        refine ⟨_, ?_, s2, o, a, b, c, h7, rfl⟩
        have : ¬ ((7 : Int) < (s2.sum : Nat)) := by omega
        simp [lS, li, this]
      · right
        have h7' : (7 : Int) < (s2.sum : Nat) := by omega
        refine ⟨lS (some (.d (li s2), o)) none none none (nones 18) w, lS (some (.d (li s2.dropLast), true)) none none none (nones 18) w, ?_, ?_, ⟨s2.dropLast, true, by simp; omega, ?_, fun x hx => c x (List.dropLast_subset _ hx), rfl⟩, ?_⟩
        · simp [lS, li, h7']
        · have z : pNg (.int 1) = some (.int (-1)) := rfl
          have z2 := cutD_neg1 (il s2)
          have z3 : (il s2).dropLast = il s2.dropLast := by unfold il; rw [List.map_dropLast]
          rw [z3] at z2
          simp [lS, li, b6_law, z, z2]
        · rw [List.length_dropLast]
          match s2, c, h7 with
          | [x], c, h7 => have := c x (by simp); simp at h7; omega
          | x :: y :: r, _, _ => simp
        · simp [lS, li]; omega)
    fuel _ ⟨sizes, true, h3, h0, hq, rfl⟩ (by rw [fuel_eq]; simp [lS, li]; omega)
  obtain ⟨s2, o, a, b, c, d, rfl⟩ := q
  exact ⟨s2, o, a, b, c, d, e⟩
theorem sizes_in {s : List Nat} (h3 : s.length ≤ 3) (h0 : 0 < s.length) (hq : ∀ x ∈ s, 1 ≤ x ∧ x ≤ 3) (h7 : s.sum ≤ 7) : s ∈ sizesL := by
  have i3 : ∀ a : Nat, 1 ≤ a ∧ a ≤ 3 → a ∈ [1, 2, 3] := fun a h => by
    have : a = 1 ∨ a = 2 ∨ a = 3 := by omega
    rcases this with rfl | rfl | rfl <;> decide
  unfold sizesL
  match s, h3, h0, hq, h7 with
  | [a], _, _, hq, _ => exact List.mem_append_left _ (List.mem_append_left _ (List.mem_map.mpr ⟨a, i3 a (hq a (by simp)), rfl⟩))
  | [a, b], _, _, hq, _ => exact List.mem_append_left _ (List.mem_append_right _ (List.mem_flatMap.mpr ⟨a, i3 a (hq a (by simp)), List.mem_map.mpr ⟨b, i3 b (hq b (by simp)), rfl⟩⟩))
  | [a, b, c], _, _, hq, h7 => exact List.mem_append_right _ (List.mem_filter.mpr ⟨List.mem_flatMap.mpr ⟨a, i3 a (hq a (by simp)), List.mem_flatMap.mpr ⟨b, i3 b (hq b (by simp)), List.mem_map.mpr ⟨c, i3 c (hq c (by simp)), rfl⟩⟩⟩, decide_eq_true h7⟩)
/-! ### the won count -/
theorem fl_b4 : ∀ (ss way : List Nat) (a : Nat) (done : List (List Nat)) (A0 A1 A2 A3 A4 A5 : Sl) (o6 : Bool) (s9 : Sl) (rest : List Sl) (w : Bw), done.length + ss.length ≤ sizeLine →
    ∃ s9', fFl (.nm 9) b4_law (il ss) ⟨A0 :: A1 :: A2 :: A3 :: A4 :: A5 :: some (.d (ti way), o6) :: some (.d (tl done), true) :: some (.d (.int (a : Int)), true) :: s9 :: rest, w⟩ =
      some (.nx ⟨A0 :: A1 :: A2 :: A3 :: A4 :: A5 :: some (.d (ti way), o6) :: some (.d (tl (done ++ cutN ss (way.drop a))), true) :: some (.d (.int ((a + ss.sum : Nat) : Int)), true) :: s9' :: rest, w⟩)
  | [], way, a, done, A0, A1, A2, A3, A4, A5, o6, s9, rest, w, _ => ⟨s9, by simp [cutN]⟩
  | s :: ss, way, a, done, A0, A1, A2, A3, A4, A5, o6, s9, rest, w, h => by
    rw [List.length_cons] at h
    obtain ⟨s9', ih⟩ := fl_b4 ss way (a + s) (done ++ [(way.drop a).take s]) A0 A1 A2 A3 A4 A5 o6 (some (.d (.int (s : Int)), true)) rest w (by simp; omega)
    refine ⟨s9', ?_⟩
    have z := cutD_nat (il way) a (a + s)
    rw [cut_take] at z
    have e : turn (.nm 9) b4_law (.int (s : Int)) (⟨A0 :: A1 :: A2 :: A3 :: A4 :: A5 :: some (.d (ti way), o6) :: some (.d (tl done), true) :: some (.d (.int (a : Int)), true) :: s9 :: rest, w⟩ : S Bw) = some (.nx ⟨A0 :: A1 :: A2 :: A3 :: A4 :: A5 :: some (.d (ti way), o6) :: some (.d (tl (done ++ [(way.drop a).take s])), true) :: some (.d (.int ((a + s : Nat) : Int)), true) :: some (.d (.int (s : Int)), true) :: rest, w⟩) := by
      have hl : done.length < sizeLine := by omega
      simp [turn, b4_law, ti, tl] at z ⊢
      simp [z, hl]
    rw [il_cons, fFl_turn, e, bL_nx, ih]
    simp [cutN, Nat.add_assoc]
theorem cutN_flat : ∀ (ss cs : List Nat), cs.length = ss.sum → (cutN ss cs).flatten = cs
  | [], cs, h => by simp at h; simp [cutN, h]
  | s :: ss, cs, h => by
    rw [List.sum_cons] at h
    rw [cutN, List.flatten_cons, cutN_flat ss (cs.drop s) (by simp; omega), List.take_append_drop]
theorem cutN_lens : ∀ (ss cs : List Nat), cs.length = ss.sum → (cutN ss cs).map List.length = ss
  | [], cs, h => rfl
  | s :: ss, cs, h => by
    rw [List.sum_cons] at h
    rw [cutN, List.map_cons, cutN_lens ss (cs.drop s) (by simp; omega)]
    simp; omega
theorem total_cut {ss cs : List Nat} (h : cs.length = ss.sum) : total (cutN ss cs) = cs.length := by
  unfold total
  rw [cutN_lens ss cs h, h]
theorem cutN_fit {ss cs : List Nat} (h : cs.length = ss.sum) (hx : ∀ x ∈ cs, x < ss.length) : Fit (cutN ss cs) := by
  intro p hp c hc
  rw [cutN_length]
  refine hx c ?_
  rw [← cutN_flat ss cs h]
  exact List.mem_flatten.mpr ⟨p, hp, hc⟩
/-- what of a way is used -/
structure Way (s way : List Nat) : Prop where
  len : way.length = s.sum
  cnt : ∀ k, k < s.length → way.count k = s.getD k 0
  fit : ∀ x ∈ way, x < s.length
theorem way_of {s way : List Nat} (hs : s ∈ sizesL) (h : way ∈ waysN 10 s) (h3 : s.length ≤ 3) : Way s way := by
  have := List.all_eq_true.mp (List.all_eq_true.mp fair_all s hs) way h
  rw [Bool.and_eq_true, Bool.and_eq_true] at this
  obtain ⟨⟨a, b⟩, c⟩ := this
  exact ⟨of_decide_eq_true a, fun k hk => of_decide_eq_true (List.all_eq_true.mp b k (List.mem_range.mpr (by omega))), fun x hx => of_decide_eq_true (List.all_eq_true.mp c x hx)⟩
theorem turn_b5 {s way : List Nat} (hw : Way s way) (h3 : s.length ≤ 3) (h0 : 0 < s.length) (h7 : s.sum ≤ 7) {o2 : Bool} {tn wy : Sl} {wn : Nat} {r6 r7 r8 r9 r10 r11 r12 : Sl} {w : Bw} : ∃ r7' r8' r9' r10' r11' r12',
    turn (.nm 6) b5_law (ti way) (lS (some (.d (li s), o2)) tn wy (some (.d (.int (wn : Int)), true)) (r6 :: r7 :: r8 :: r9 :: r10 :: r11 :: r12 :: nones 11) w) = some (.nx (lS (some (.d (li s), false)) tn wy (some (.d (.int ((wn + if wonW s way then 1 else 0 : Nat) : Int)), true)) (some (.d (ti way), true) :: r7' :: r8' :: r9' :: r10' :: r11' :: r12' :: nones 11) w)) := by
  obtain ⟨s9, e1⟩ := fl_b4 s way 0 [] none (some (.box, true)) (some (.d (li s), false)) tn wy (some (.d (.int (wn : Int)), true)) true r9 (r10 :: r11 :: r12 :: nones 11) w (by simp; exact Nat.le_trans h3 (by decide))
  obtain ⟨fr, e2⟩ := F_played_eq (w := w) (piles := cutN s way) (tl (cutN s way)) (.inr rfl) (cutN_fit hw.len hw.fit) (by rw [cutN_length]; exact h0) (by rw [cutN_length]; exact Nat.le_trans h3 (by decide)) (by rw [total_cut hw.len, hw.len]; omega)
  have ew : ((won (cutN s way) : Int) == (way.length : Int)) = wonW s way := by
    unfold wonW
    rw [Bool.eq_iff_iff, beq_iff_eq, decide_eq_true_iff]; omega
  have es : s.length ≤ sizeLine := Nat.le_trans h3 (by decide)
  have e1' : fFor [2] (.nm 9) (iSq (fVar 2)) b4_law (⟨none :: some (.box, true) :: some (.d (li s), o2) :: tn :: wy :: some (.d (.int (wn : Int)), true) :: some (.d (ti way), true) :: some (.d (tl []), true) :: some (.d (.int 0), true) :: r9 :: (r10 :: r11 :: r12 :: nones 11), w⟩ : S Bw) = some (.nx ⟨none :: some (.box, true) :: some (.d (li s), false) :: tn :: wy :: some (.d (.int (wn : Int)), true) :: some (.d (ti way), true) :: some (.d (tl (cutN s way)), true) :: some (.d (.int (s.sum : Int)), true) :: s9 :: (r10 :: r11 :: r12 :: nones 11), w⟩) := by
    rw [fFor_ap]
    simp [li, nones] at e1 ⊢
    exact e1
  have ei : pInt [.bool (wonW s way)] = some (.int (if wonW s way then 1 else 0)) := rfl
  simp only [tl, List.map_nil] at e1'
  have e2' : F__law_played [R.d (PyData.list (List.map ti (cutN s way)))] w = _ := e2
  have ec : ((wn + if wonW s way then 1 else 0 : Nat) : Int) = (wn : Int) + (if wonW s way then 1 else 0) := by split <;> simp
  rw [ec]
  simp -implicitDefEqProofs [turn, b5_law, lS, e1', e2']
  cases fr <;> simp -implicitDefEqProofs [nones, ti, li, ew, ei]
end Law

set_option Elab.async false
set_option linter.all false
set_option maxRecDepth 100000
set_option autoImplicit false
set_option maxHeartbeats 4000000
/-! a clock is won where each pile's last card leads to pile 0 -/
namespace Law
def nonE (left : List (List Nat)) : Nat := (left.map fun p => if p = [] then 0 else 1).sum
theorem nonE_set {left : List (List Nat)} {a c : Nat} {r : List Nat} (e : left[a]? = some (c :: r)) : nonE left = nonE (left.set a r) + (if r = [] then 1 else 0) := by
  induction left generalizing a with
  | nil => simp at e
  | cons x xs ih =>
    cases a with
    | zero =>
      simp at e; subst e
      by_cases h : r = []
      · simp [nonE, h]; omega
      · simp [nonE, h]
    | succ a =>
      have := ih (a := a) (by simpa using e)
      simp [nonE] at this ⊢
      omega
theorem nonE_le (left : List (List Nat)) : nonE left ≤ left.length := by
  induction left with
  | nil => simp [nonE]
  | cons x xs ih =>
    simp [nonE] at ih ⊢
    split <;> omega
theorem count_set {left : List (List Nat)} {a c : Nat} {r : List Nat} (e : left[a]? = some (c :: r)) (k : Nat) : left.flatten.count k = (left.set a r).flatten.count k + (if c = k then 1 else 0) := by
  induction left generalizing a with
  | nil => simp at e
  | cons x xs ih =>
    cases a with
    | zero =>
      simp at e; subst e
      simp [List.count_append, List.count_cons]
      try omega
    | succ a =>
      have := ih (a := a) (by simpa using e)
      simp [List.count_append] at this ⊢
      omega
def lenAt (left : List (List Nat)) (k : Nat) : Nat := (left.getD k []).length
theorem lenAt_set {left : List (List Nat)} {a c : Nat} {r : List Nat} (e : left[a]? = some (c :: r)) (k : Nat) : lenAt left k = lenAt (left.set a r) k + (if a = k then 1 else 0) := by
  have ha : a < left.length := (List.getElem?_eq_some_iff.mp e).1
  unfold lenAt
  rw [List.getD_eq_getElem?_getD, List.getD_eq_getElem?_getD]
  by_cases h : a = k
  · subst h
    rw [e, List.getElem?_set_self ha]; simp
  · rw [List.getElem?_set_ne h]; simp [h]
/-- where the walk ends -/
structure Ends' (left : List (List Nat)) (a : Nat) (l' : List (List Nat)) (e : Nat) (found : List Nat) : Prop where
  len : l'.length = left.length
  emp : l'[e]? = some []
  sum : found.length + total l' = total left
  cnt : ∀ k, left.flatten.count k + lenAt l' k + (if a = k then 1 else 0) = l'.flatten.count k + lenAt left k + (if e = k then 1 else 0)
  suf : ∀ j, ∃ p, left.getD j [] = p ++ l'.getD j []
theorem walk_ends : ∀ (n : Nat) (left : List (List Nat)) (a : Nat), total left ≤ n → Fit left → a < left.length → Ends' left a (walkN n left a).1 (walkN n left a).2.1 (walkN n left a).2.2
  | 0, left, a, h, _, ha => by
    have e : left[a] = [] := by
      have h2 : left[a].length ≤ total left := Vv.le_sum (List.mem_map.mpr ⟨_, List.getElem_mem ha, rfl⟩)
      exact List.eq_nil_of_length_eq_zero (by omega)
    exact ⟨rfl, by show left[a]? = _; rw [List.getElem?_eq_getElem ha, e], by simp [walkN], fun k => rfl, fun j => ⟨[], rfl⟩⟩
  | n + 1, left, a, h, hf, ha => by
    cases e : left[a] with
    | nil =>
      have e' : left[a]? = some [] := by rw [List.getElem?_eq_getElem ha, e]
      have : walkN (n + 1) left a = (left, a, []) := by rw [walkN, e']
      rw [this]
      exact ⟨rfl, e', by simp, fun k => rfl, fun j => ⟨[], rfl⟩⟩
    | cons c r =>
      have e' : left[a]? = some (c :: r) := by rw [List.getElem?_eq_getElem ha, e]
      obtain ⟨hf2, hc⟩ := hf.set e'
      have ht := total_set e'
      have ih := walk_ends n (left.set a r) c (by omega) hf2 hc
      have : walkN (n + 1) left a = ((walkN n (left.set a r) c).1, (walkN n (left.set a r) c).2.1, a :: (walkN n (left.set a r) c).2.2) := by rw [walkN, e']
      rw [this]
      refine ⟨by rw [ih.len, List.length_set], ih.emp, by have := ih.sum; show (walkN n (left.set a r) c).2.2.length + 1 + total (walkN n (left.set a r) c).1 = total left; omega, fun k => ?_, fun j => ?_⟩
      · have h1 := ih.cnt k
        have h2 := count_set e' k
        have h3 := lenAt_set e' k
        show left.flatten.count k + lenAt (walkN n (left.set a r) c).1 k + (if a = k then 1 else 0) = (walkN n (left.set a r) c).1.flatten.count k + lenAt left k + (if (walkN n (left.set a r) c).2.1 = k then 1 else 0)
        omega
      · obtain ⟨p, hp⟩ := ih.suf j
        by_cases hj : a = j
        · subst hj
          refine ⟨c :: p, ?_⟩
          rw [List.getD_eq_getElem?_getD, e'] 
          rw [List.getD_eq_getElem?_getD, List.getElem?_set_self ha] at hp
          simpa using hp
        · refine ⟨p, ?_⟩
          rw [List.getD_eq_getElem?_getD, List.getElem?_set_ne hj, ← List.getD_eq_getElem?_getD] at hp
          exact hp
theorem hop_zero (rows : List Nat) : ∀ k, hop rows k 0 = 0
  | 0 => rfl
  | k + 1 => by simp [hop]
theorem hop_more {rows : List Nat} : ∀ {k a : Nat}, hop rows k a = 0 → hop rows (k + 1) a = 0
  | 0, a, h => by
    have : a = 0 := h
    rw [this]; exact hop_zero rows 1
  | k + 1, a, h => by
    rw [hop] at h ⊢
    split
    · rfl
    · rename_i h0
      rw [if_neg h0] at h
      exact hop_more h
theorem hop_mono {rows : List Nat} {k m a : Nat} (h : hop rows k a = 0) (hm : k ≤ m) : hop rows m a = 0 := by
  obtain ⟨d, rfl⟩ := Nat.le.dest hm
  clear hm
  induction d with
  | zero => exact h
  | succ d ih => exact hop_more ih
/-- won: from each pile with cards the leads reach pile 0 -/
theorem reach (rows : List Nat) : ∀ (n : Nat) (left : List (List Nat)) (a : Nat), total left ≤ n → Fit left → a < left.length → (∀ (j c : Nat) (p : List Nat), left[j]? = some (p ++ [c]) → rows[j]? = some c) →
    (walkN n left a).2.1 = 0 → (∀ j, (walkN n left a).1.getD j [] = []) → hop rows (nonE left) a = 0 ∧ ∀ j, left.getD j [] ≠ [] → hop rows (nonE left) j = 0
  | 0, left, a, h, _, ha, _, h0, he => by
    have h0 : a = 0 := h0
    subst h0
    exact ⟨hop_zero _ _, fun j hj => absurd (he j) hj⟩
  | n + 1, left, a, h, hf, ha, hr, h0, he => by
    cases e : left[a] with
    | nil =>
      have e' : left[a]? = some [] := by rw [List.getElem?_eq_getElem ha, e]
      have : walkN (n + 1) left a = (left, a, []) := by rw [walkN, e']
      rw [this] at h0 he
      have h0 : a = 0 := h0
      subst h0
      exact ⟨hop_zero _ _, fun j hj => absurd (he j) hj⟩
    | cons c r =>
      have e' : left[a]? = some (c :: r) := by rw [List.getElem?_eq_getElem ha, e]
      obtain ⟨hf2, hc⟩ := hf.set e'
      have ht := total_set e'
      have : walkN (n + 1) left a = ((walkN n (left.set a r) c).1, (walkN n (left.set a r) c).2.1, a :: (walkN n (left.set a r) c).2.2) := by rw [walkN, e']
      rw [this] at h0 he
      have hr2 : ∀ j x p, (left.set a r)[j]? = some (p ++ [x]) → rows[j]? = some x := fun j x p hj => by
        by_cases ja : a = j
        · subst ja
          rw [List.getElem?_set_self ha] at hj
          injection hj with hj
          exact hr a x (c :: p) (by rw [e', hj]; rfl)
        · rw [List.getElem?_set_ne ja] at hj
          exact hr j x p hj
      obtain ⟨i1, i2⟩ := reach rows n (left.set a r) c (by omega) hf2 hc hr2 h0 he
      have hn := nonE_set e'
      have ga : left.getD a [] = c :: r := by rw [List.getD_eq_getElem?_getD, e']; rfl
      have key : hop rows (nonE left) a = 0 := by
        by_cases hre : r = []
        · rw [if_pos hre] at hn
          rw [hn, hop]
          split
          · rfl
          · have : rows[a]? = some c := hr a c [] (by rw [e', hre]; rfl)
            rw [this]; exact i1
        · rw [if_neg hre] at hn
          rw [hn]
          refine i2 a ?_
          rw [List.getD_eq_getElem?_getD, List.getElem?_set_self ha]
          exact hre
      refine ⟨key, fun j hj => ?_⟩
      by_cases ja : a = j
      · subst ja; exact key
      · refine hop_mono (i2 j ?_) (by omega)
        rw [List.getD_eq_getElem?_getD, List.getElem?_set_ne ja, ← List.getD_eq_getElem?_getD]
        exact hj
/-- the piles of a clock -/
structure Fair (piles : List (List Nat)) : Prop where
  fit : Fit piles
  ne : ∀ p ∈ piles, p ≠ []
  pos : 0 < piles.length
  cnt : ∀ k, k < piles.length → piles.flatten.count k = lenAt piles k
theorem leads_get {piles : List (List Nat)} {j c : Nat} {p : List Nat} (h : piles[j]? = some (p ++ [c])) : (leadsN piles)[j]? = some c := by
  unfold leadsN
  rw [List.getElem?_map, h]
  simp
theorem clock {piles : List (List Nat)} (F : Fair piles) : won piles = total piles ↔ tree (leadsN piles) = true := by
  have E := walk_ends (total piles) piles 0 (Nat.le_refl _) F.fit F.pos
  unfold won
  generalize hW : walkN (total piles) piles 0 = W at E
  obtain ⟨l', e, found⟩ := W
  have he : e < piles.length := by
    have := (List.getElem?_eq_some_iff.mp E.emp).1
    have := E.len
    simp only at *
    omega
  have le0 : lenAt l' e = 0 := by unfold lenAt; rw [List.getD_eq_getElem?_getD, show l'[e]? = some [] from E.emp]; rfl
  have e0 : e = 0 := by
    have h1 := E.cnt e
    have h2 := F.cnt e he
    simp only at h1
    by_cases h : 0 = e
    · exact h.symm
    · simp [h] at h1; omega
  have same : ∀ k, k < piles.length → lenAt l' k = l'.flatten.count k := fun k hk => by
    have h1 := E.cnt k
    have h2 := F.cnt k hk
    simp only [e0] at h1
    omega
  have hlen : (leadsN piles).length = piles.length := List.length_map ..
  constructor
  · intro hw
    have hw : found.length = total piles := hw
    have t0 : total l' = 0 := by have := E.sum; simp only at this; omega
    have emp : ∀ j, l'.getD j [] = [] := fun j => by
      rw [List.getD_eq_getElem?_getD]
      cases hj : l'[j]? with
      | none => rfl
      | some p =>
        have : p.length ≤ total l' := Vv.le_sum (List.mem_map.mpr ⟨p, List.mem_of_getElem? hj, rfl⟩)
        show p = []
        exact List.eq_nil_of_length_eq_zero (by omega)
    have R := reach (leadsN piles) (total piles) piles 0 (Nat.le_refl _) F.fit F.pos (fun j c p h => leads_get h) (by rw [hW]; exact e0) (by rw [hW]; exact emp)
    refine decide_eq_true fun p hp => ?_
    have hp := List.mem_range.mp hp
    rw [hlen] at hp ⊢
    refine hop_mono (R.2 p ?_) (nonE_le piles)
    rw [List.getD_eq_getElem?_getD, List.getElem?_eq_getElem hp]
    exact F.ne _ (List.getElem_mem hp)
  · intro ht
    have ht := of_decide_eq_true ht
    show found.length = total piles
    have hs := E.sum
    simp only at hs
    -- a pile that is left leads to a pile that is left
    have step : ∀ (k j : Nat), j < piles.length → l'.getD j [] ≠ [] → hop (leadsN piles) k j ≠ 0 := by
      intro k
      induction k with
      | zero =>
        intro j hj hn z
        have z : j = 0 := z
        subst z
        rw [e0] at le0
        unfold lenAt at le0
        exact hn (List.eq_nil_of_length_eq_zero le0)
      | succ k ih =>
        intro j hj hn
        have hj0 : j ≠ 0 := fun z => by
          subst z
          rw [e0] at le0
          unfold lenAt at le0
          exact hn (List.eq_nil_of_length_eq_zero le0)
        rw [hop, if_neg hj0]
        obtain ⟨p, hp⟩ := E.suf j
        simp only at hp
        obtain ⟨q, c, hq⟩ : ∃ q c, l'.getD j [] = q ++ [c] := ⟨_, _, (List.dropLast_concat_getLast hn).symm⟩
        have gj : piles[j]? = some (p ++ q ++ [c]) := by
          rw [List.getElem?_eq_getElem hj]
          rw [List.getD_eq_getElem?_getD, List.getElem?_eq_getElem hj, hq] at hp
          rw [List.append_assoc]
          exact congrArg some hp
        rw [leads_get gj]
        have hc : c < piles.length := F.fit _ (List.mem_of_getElem? gj) c (by simp)
        refine ih c hc fun z => ?_
        have h1 := same c hc
        have h2 : lenAt l' c = 0 := by unfold lenAt; rw [z]; rfl
        have hjl : j < l'.length := by have := E.len; simp only at this; omega
        have h3 : c ∈ l'.flatten := List.mem_flatten.mpr ⟨l'[j], List.getElem_mem hjl, by
          have : l'.getD j [] = l'[j] := by rw [List.getD_eq_getElem?_getD, List.getElem?_eq_getElem hjl]; rfl
          rw [← this, hq]; simp⟩
        have := List.count_pos_iff.mpr h3
        omega
    have emp : ∀ p ∈ l', p = [] := fun p hp => by
      obtain ⟨j, hj, rfl⟩ := List.getElem_of_mem hp
      have hjp : j < piles.length := by have := E.len; simp only at this; omega
      have gd : l'.getD j [] = l'[j] := by rw [List.getD_eq_getElem?_getD, List.getElem?_eq_getElem hj]; rfl
      refine Classical.byContradiction fun hn => ?_
      exact step (leadsN piles).length j hjp (by rw [gd]; exact hn) (ht j (List.mem_range.mpr (by rw [hlen]; exact hjp)))
    have t0 : total l' = 0 := by
      unfold total
      have : ∀ (xs : List (List Nat)), (∀ p ∈ xs, p = []) → (xs.map List.length).sum = 0 := fun xs h => by
        induction xs with
        | nil => rfl
        | cons x xs ih =>
          have := h x List.mem_cons_self
          rw [List.map_cons, List.sum_cons, this, ih fun p hp => h p (List.mem_cons_of_mem _ hp)]; rfl
      exact this l' emp
    omega
end Law

set_option Elab.async false
set_option linter.all false
set_option maxRecDepth 100000
set_option autoImplicit false
set_option maxHeartbeats 4000000
namespace Law
open PySem PySem.Spec PyProof.Rows L2 Vv
theorem fl_b5 {s : List Nat} (h3 : s.length ≤ 3) (h0 : 0 < s.length) (h7 : s.sum ≤ 7) {tn wy : Sl} {w : Bw} : ∀ (ws : List (List Nat)) (o2 : Bool) (wn : Nat) (r6 r7 r8 r9 r10 r11 r12 : Sl), (∀ x ∈ ws, Way s x) → ∃ o2' r6' r7' r8' r9' r10' r11' r12',
    fFl (.nm 6) b5_law (ws.map ti) (lS (some (.d (li s), o2)) tn wy (some (.d (.int (wn : Int)), true)) (r6 :: r7 :: r8 :: r9 :: r10 :: r11 :: r12 :: nones 11) w) = some (.nx (lS (some (.d (li s), o2')) tn wy (some (.d (.int ((wn + (ws.filter (wonW s)).length : Nat) : Int)), true)) (r6' :: r7' :: r8' :: r9' :: r10' :: r11' :: r12' :: nones 11) w))
  | [], o2, wn, r6, r7, r8, r9, r10, r11, r12, _ => ⟨o2, r6, r7, r8, r9, r10, r11, r12, by simp⟩
  | x :: ws, o2, wn, r6, r7, r8, r9, r10, r11, r12, hw => by
    obtain ⟨r7', r8', r9', r10', r11', r12', e⟩ := turn_b5 (hw x List.mem_cons_self) h3 h0 h7 (o2 := o2) (tn := tn) (wy := wy) (wn := wn) (r6 := r6) (r7 := r7) (r8 := r8) (r9 := r9) (r10 := r10) (r11 := r11) (r12 := r12) (w := w)
    obtain ⟨o2', r6'', r7'', r8'', r9'', r10'', r11'', r12'', e2⟩ := fl_b5 h3 h0 h7 (tn := tn) (wy := wy) (w := w) ws false (wn + if wonW s x then 1 else 0) (some (.d (ti x), true)) r7' r8' r9' r10' r11' r12' fun y hy => hw y (List.mem_cons_of_mem _ hy)
    refine ⟨o2', r6'', r7'', r8'', r9'', r10'', r11'', r12'', ?_⟩
    have en : wn + (if wonW s x then 1 else 0) + (ws.filter (wonW s)).length = wn + ((x :: ws).filter (wonW s)).length := by
      by_cases h : wonW s x = true
      · rw [List.filter_cons_of_pos h, if_pos h, List.length_cons]; omega
      · rw [List.filter_cons_of_neg h, if_neg h]; omega
    rw [List.map_cons, fFl_turn, e, bL_nx, e2, en]
theorem fl_b2 {A0 A1 A2 A3 A4 A5 A6 A7 A8 A9 A10 A11 A12 : Sl} {rest : List Sl} {w : Bw} : ∀ (ps : List (List Nat)) (flat : List Nat) (r14 : Sl), flat.length + ps.flatten.length ≤ sizeLine → ∃ r14',
    fFl (.nm 14) b2_law (ps.map ti) ⟨A0 :: A1 :: A2 :: A3 :: A4 :: A5 :: A6 :: A7 :: A8 :: A9 :: A10 :: A11 :: A12 :: some (.d (.tuple (il flat)), true) :: r14 :: rest, w⟩ = some (.nx ⟨A0 :: A1 :: A2 :: A3 :: A4 :: A5 :: A6 :: A7 :: A8 :: A9 :: A10 :: A11 :: A12 :: some (.d (.tuple (il (flat ++ ps.flatten))), true) :: r14' :: rest, w⟩)
  | [], flat, r14, _ => ⟨r14, by simp⟩
  | p :: ps, flat, r14, h => by
    rw [List.flatten_cons, List.length_append] at h
    obtain ⟨r14', e2⟩ := fl_b2 (A0 := A0) (A1 := A1) (A2 := A2) (A3 := A3) (A4 := A4) (A5 := A5) (A6 := A6) (A7 := A7) (A8 := A8) (A9 := A9) (A10 := A10) (A11 := A11) (A12 := A12) (rest := rest) (w := w) ps (flat ++ p) (some (.d (ti p), true)) (by rw [List.length_append]; omega)
    refine ⟨r14', ?_⟩
    have z := pAdd_tuple (x := il flat) (y := il p) (by simp; omega)
    have e : turn (.nm 14) b2_law (ti p) (⟨A0 :: A1 :: A2 :: A3 :: A4 :: A5 :: A6 :: A7 :: A8 :: A9 :: A10 :: A11 :: A12 :: some (.d (.tuple (il flat)), true) :: r14 :: rest, w⟩ : S Bw) = some (.nx ⟨A0 :: A1 :: A2 :: A3 :: A4 :: A5 :: A6 :: A7 :: A8 :: A9 :: A10 :: A11 :: A12 :: some (.d (.tuple (il (flat ++ p))), true) :: some (.d (ti p), true) :: rest, w⟩) := by
      simp [turn, b2_law, ti, z]
    rw [List.map_cons, fFl_turn, e, bL_nx, e2]
    simp
def freeK (piles : List (List Nat)) (k : Nat) : List (List Nat) := (List.range (lenAt piles k - 1)).map fun j => [k, j]
theorem turn_b1 {piles : List (List Nat)} {k : Nat} (hk : k < piles.length) (hb : lenAt piles k ≤ 1000) (hp : 0 < lenAt piles k) {free : List (List Nat)} (hl : free.length + lenAt piles k ≤ sizeLine) {A0 A1 A2 A3 A4 A5 A6 A8 A9 A10 A11 A12 A13 A14 A15 r17 r18 : Sl} {o7 : Bool} {rest : List Sl} {w : Bw} :
    turn (.nm 17) b1_law (.int (k : Int)) ⟨A0 :: A1 :: A2 :: A3 :: A4 :: A5 :: A6 :: some (.d (tt piles), o7) :: A8 :: A9 :: A10 :: A11 :: A12 :: A13 :: A14 :: A15 :: some (.d (tl free), true) :: r17 :: r18 :: rest, w⟩ = some (.nx ⟨A0 :: A1 :: A2 :: A3 :: A4 :: A5 :: A6 :: some (.d (tt piles), o7) :: A8 :: A9 :: A10 :: A11 :: A12 :: A13 :: A14 :: A15 :: some (.d (tl (free ++ freeK piles k)), true) :: some (.d (.int (k : Int)), true) :: r18 :: rest, w⟩) := by
  have hlen : (il piles[k]).length = lenAt piles k := by unfold lenAt; rw [List.getD_eq_getElem?_getD, List.getElem?_eq_getElem hk]; simp
  have hlen' : piles[k].length = lenAt piles k := by simpa using hlen
  have hb2 : rgB ((lenAt piles k : Int) - 1) = true := by unfold rgB; rw [decide_eq_true_iff]; omega
  have hn : ((lenAt piles k : Int) - 1).toNat = lenAt piles k - 1 := by omega
  have hl2 : (List.range (lenAt piles k - 1)).length ≤ sizeLine := by simp; exact Nat.le_trans (by omega : _ ≤ 1000) (by decide)
  have e := comp_mapT (m := [7, 17]) (vs := [18]) (p := .nm 18) (fi := iR1 (fCo false (f2 pSub false false (fPr pLen false (fCo false (f2 pIdx false false (fVar 7) (fVar 17)) (fN))) (fC (.int 1))) (fN))) (fe := fTup (fCo false (fVar 17) (fCo false (fVar 18) (fN))))
    (sl := A0 :: A1 :: A2 :: A3 :: A4 :: A5 :: A6 :: some (.d (tt piles), o7) :: A8 :: A9 :: A10 :: A11 :: A12 :: A13 :: A14 :: A15 :: some (.d (tl free), true) :: some (.d (.int (k : Int)), true) :: r18 :: rest) (w := w) ni (fun j => ti [k, j]) (fun _ => true) (List.range (lenAt piles k - 1))
    (by
      simp -implicitDefEqProofs [tt, atN, hk]
      simp -implicitDefEqProofs [ti, hlen', hb2, hn, rg_il]; rfl)
    (fun j hj => by simp -implicitDefEqProofs [turnE, wipeL, ni]; simp [ti]) hl2
  have em : (List.range (lenAt piles k - 1)).map (fun j => ti [k, j]) = (freeK piles k).map ti := by unfold freeK; rw [List.map_map]; rfl
  rw [em, all_t] at e
  have hf : free.length + (freeK piles k).length ≤ sizeLine := by unfold freeK; simp; omega
  simp only [tl] at e ⊢
  simp -implicitDefEqProofs [turn, b1_law, e, hf]
theorem fl_b1 {piles : List (List Nat)} (hb : ∀ k, k < piles.length → lenAt piles k ≤ 1000 ∧ 0 < lenAt piles k) {A0 A1 A2 A3 A4 A5 A6 A8 A9 A10 A11 A12 A13 A14 A15 r18 : Sl} {o7 : Bool} {rest : List Sl} {w : Bw} : ∀ (ks : List Nat) (free : List (List Nat)) (r17 : Sl), (∀ k ∈ ks, k < piles.length) → free.length + ks.length * 1000 ≤ sizeLine → ∃ r17',
    fFl (.nm 17) b1_law (il ks) ⟨A0 :: A1 :: A2 :: A3 :: A4 :: A5 :: A6 :: some (.d (tt piles), o7) :: A8 :: A9 :: A10 :: A11 :: A12 :: A13 :: A14 :: A15 :: some (.d (tl free), true) :: r17 :: r18 :: rest, w⟩ = some (.nx ⟨A0 :: A1 :: A2 :: A3 :: A4 :: A5 :: A6 :: some (.d (tt piles), o7) :: A8 :: A9 :: A10 :: A11 :: A12 :: A13 :: A14 :: A15 :: some (.d (tl (free ++ ks.flatMap (freeK piles))), true) :: r17' :: r18 :: rest, w⟩)
  | [], free, r17, _, _ => ⟨r17, by simp⟩
  | k :: ks, free, r17, hk, hl => by
    rw [List.length_cons] at hl
    have hk0 := hk k List.mem_cons_self
    obtain ⟨b1, b2⟩ := hb k hk0
    have e := turn_b1 (A0 := A0) (A1 := A1) (A2 := A2) (A3 := A3) (A4 := A4) (A5 := A5) (A6 := A6) (A8 := A8) (A9 := A9) (A10 := A10) (A11 := A11) (A12 := A12) (A13 := A13) (A14 := A14) (A15 := A15) (r17 := r17) (r18 := r18) (o7 := o7) (rest := rest) (w := w) hk0 b1 b2 (free := free) (by omega)
    obtain ⟨r17', e2⟩ := fl_b1 hb (A0 := A0) (A1 := A1) (A2 := A2) (A3 := A3) (A4 := A4) (A5 := A5) (A6 := A6) (A8 := A8) (A9 := A9) (A10 := A10) (A11 := A11) (A12 := A12) (A13 := A13) (A14 := A14) (A15 := A15) (r18 := r18) (o7 := o7) (rest := rest) (w := w) ks (free ++ freeK piles k) (some (.d (.int (k : Int)), true)) (fun x hx => hk x (List.mem_cons_of_mem _ hx)) (by
      rw [List.length_append]
      have : (freeK piles k).length ≤ 1000 := by unfold freeK; simp; omega
      omega)
    refine ⟨r17', ?_⟩
    rw [il_cons, fFl_turn, e, bL_nx, e2, List.flatMap_cons, List.append_assoc]
end Law

set_option Elab.async false
set_option linter.all false
set_option maxRecDepth 100000
set_option autoImplicit false
set_option maxHeartbeats 4000000
namespace Law
open PySem PySem.Spec PyProof.Rows L2 Vv
theorem fair_cut {s way : List Nat} (hw : Way s way) (h0 : 0 < s.length) (hq : ∀ x ∈ s, 1 ≤ x) : Fair (cutN s way) := by
  have hl := cutN_lens s way hw.len
  have hg : ∀ k, lenAt (cutN s way) k = s.getD k 0 := fun k => by
    have : ((cutN s way).map List.length)[k]? = s[k]? := by rw [hl]
    rw [List.getElem?_map] at this
    unfold lenAt
    rw [List.getD_eq_getElem?_getD, List.getD_eq_getElem?_getD, ← this]
    cases (cutN s way)[k]? <;> rfl
  refine ⟨cutN_fit hw.len hw.fit, fun p hp z => ?_, by rw [cutN_length]; exact h0, fun k hk => ?_⟩
  · have : p.length ∈ (cutN s way).map List.length := List.mem_map.mpr ⟨p, hp, rfl⟩
    rw [hl] at this
    have := hq _ this
    rw [z] at this
    simp at this
  · rw [cutN_flat s way hw.len, hg k]
    exact hw.cnt k (by rw [cutN_length] at hk; exact hk)
/-- a turn's first half: as far as the way is fine -/
def b3a (rest : SF Bw) : SF Bw := fSq (fAsg [4, 1, 4] (.nm 6) (f2 pIdx false false (fVar 4) (fCall F__law_draw (fCo false (fVar 1) (fCo false (fPr pLen false (fCo false (fVar 4) (fN))) (fN)))))) (fSq (fAsg [2, 6] (.nm 7) (fCall F_piles_from (fCo false (fPr pTuple false (fCo false (fVar 2) (fN))) (fCo false (fVar 6) (fN))))) (fSq (fAsg [] (.nm 13) (fTup (fN))) (fSq (fFor [7] (.nm 14) (iSq (fVar 7)) b2_law) (fSq (fIfS (fOr (fB (f2 pNe false false (fVar 13) (fVar 6))) (fOr (fB (f2 pNe false false (fComp [7] [14] (.nm 14) false (iSq (fVar 7)) (fYes) (fPr pLen false (fCo false (fVar 14) (fN)))) (fVar 2))) (fNot (fTr (f1 (pIsD .tuple) false (fVar 7)))))) (fRet (fC (.bool false))) (fPass)) (fSq (fAsg [7, 6] (.nm 15) (f2 pEq false false (f2 pIdx false false (fCall F__law_played (fCo false (fVar 7) (fN))) (fC (.int 0))) (fPr pLen false (fCo false (fVar 6) (fN))))) (fSq (fIfS (fOr (fNot (fTr (fCall F__law_same (fCo false (fCall F_is_won (fCo false (fVar 7) (fN))) (fCo false (fVar 15) (fN)))))) (fB (f2 pNe false false (f2 pEq false false (f2 pIdx false false (fCall F_clock_paper (fCo false (fVar 7) (fN))) (fC (.int 0))) (fC (.str "tree"))) (fVar 15)))) (fRet (fC (.bool false))) (fPass)) rest))))))
def b3b : SF Bw := fSq (fAsg [] (.nm 16) (fLst (fN))) (fSq (fFor [7] (.nm 17) (iR1 (fCo false (fPr pLen false (fCo false (fVar 7) (fN))) (fN))) b1_law) (fIfS (fB (f2 pGt false false (fPr pLen false (fCo false (fVar 16) (fN))) (fC (.int 1)))) (fSq (fPar [19, 20] [16, 1, 16, 16, 1, 16] (fCo false (f2 pIdx false false (fVar 16) (fCall F__law_draw (fCo false (fVar 1) (fCo false (fPr pLen false (fCo false (fVar 16) (fN))) (fN))))) (fCo false (f2 pIdx false false (fVar 16) (fCall F__law_draw (fCo false (fVar 1) (fCo false (fPr pLen false (fCo false (fVar 16) (fN))) (fN))))) (fN)))) (fSq (fAsg [7, 14] (.nm 21) (fComp [7] [14] (.nm 14) false (iSq (fVar 7)) (fYes) (fPr pList true (fCo false (fVar 14) (fN))))) (fSq (fSw 21 (pl1 21 (f2 pIdx false false (fVar 19) (fC (.int 0)))) (f2 pIdx false false (fVar 19) (fC (.int 1))) 21 (pl1 21 (f2 pIdx false false (fVar 20) (fC (.int 0)))) (f2 pIdx false false (fVar 20) (fC (.int 1))) (fCo false (f2 pIdx false false (f2 pIdx false false (fVar 21) (f2 pIdx false false (fVar 20) (fC (.int 0)))) (f2 pIdx false false (fVar 20) (fC (.int 1)))) (fCo false (f2 pIdx false false (f2 pIdx false false (fVar 21) (f2 pIdx false false (fVar 19) (fC (.int 0)))) (f2 pIdx false false (fVar 19) (fC (.int 1)))) (fN)))) (fIfS (fNot (fTr (fCall F__law_same (fCo false (fCall F_is_won (fCo false (fPr pTuple false (fCo false (fComp [21] [22] (.nm 22) false (iSq (fVar 21)) (fYes) (fPr pTuple false (fCo false (fVar 22) (fN)))) (fN))) (fN))) (fCo false (fVar 15) (fN)))))) (fRet (fC (.bool false))) (fPass))))) (fPass)))
theorem b3_law_eq : b3_law = b3a b3b := rfl
theorem pEq_tree (x : Bool) : pEq (.str (if x then "tree" else "ring")) (.str "tree") = some (.bool x) := by
  cases x <;> kernel_rfl
theorem half_a {s way : List Nat} (hw : Way s way) (h3 : s.length ≤ 3) (h0 : 0 < s.length) (h7 : s.sum ≤ 7) (hq : ∀ x ∈ s, 1 ≤ x) {rest : SF Bw} {ws : List (List Nat)} {d : Nat} {w w1 : Bw} (hd : ws[d]? = some way)
    (ed : F_draw [.box, .d (.int (ws.length : Int))] w = some (.d (.int (d : Int)), true, w1)) {o2 o4 : Bool} {wn : Sl} {tn r6 r7 r8 r9 r10 r11 r12 r13 r14 r15 r16 r17 r18 r19 r20 r21 r22 : Sl} : ∃ r14',
    b3a rest (lS (some (.d (li s), o2)) tn (some (.d (tl ws), o4)) wn [r6, r7, r8, r9, r10, r11, r12, r13, r14, r15, r16, r17, r18, r19, r20, r21, r22, none] w) =
    rest (lS (some (.d (li s), o2)) tn (some (.d (tl ws), o4)) wn [some (.d (ti way), true), some (.d (tt (cutN s way)), true), r8, r9, r10, r11, r12, some (.d (ti way), true), r14', some (.d (.bool (wonW s way)), true), r16, r17, r18, r19, r20, r21, r22, none] w1) := by
  have hF := fair_cut hw h0 hq
  have hlen : (cutN s way).length = s.length := cutN_length s way
  have es : s.length ≤ sizeLine := Nat.le_trans h3 (by decide)
  have hls : (cutN s way).length ≤ sizeLine := by rw [hlen]; exact es
  have htot : total (cutN s way) < 1000000 := by rw [total_cut hw.len, hw.len]; omega
  have e1 := F_piles_from_eq (ss := s) (cards := way) (w := w1) es
  obtain ⟨r14', e2⟩ := fl_b2 (A0 := none) (A1 := some (.box, true)) (A2 := some (.d (li s), o2)) (A3 := tn) (A4 := some (.d (tl ws), o4)) (A5 := wn) (A6 := some (.d (ti way), true)) (A7 := some (.d (tt (cutN s way)), true)) (A8 := r8) (A9 := r9) (A10 := r10) (A11 := r11) (A12 := r12) (rest := [r15, r16, r17, r18, r19, r20, r21, r22, none]) (w := w1) (cutN s way) [] r14 (by rw [cutN_flat s way hw.len, hw.len]; simp; exact Nat.le_trans h7 (by decide))
  rw [cutN_flat s way hw.len] at e2
  obtain ⟨fr, e3⟩ := F_played_eq (w := w1) (piles := cutN s way) (tt (cutN s way)) (.inl rfl) hF.fit hF.pos hls htot
  have e4 := F_is_won_eq (w := w1) hF.fit hF.pos hls htot
  obtain ⟨v, fr5, e5⟩ := F_clock_paper_eq (w := w1) hF.fit hF.ne (by rw [hlen]; omega)
  have etree : tree (leadsN (cutN s way)) = wonW s way := by
    unfold wonW
    have := clock hF
    rw [total_cut hw.len] at this
    rw [Bool.eq_iff_iff, decide_eq_true_iff]; exact this.symm
  have ewon : decide (won (cutN s way) = total (cutN s way)) = wonW s way := by unfold wonW; rw [total_cut hw.len]
  rw [ewon] at e4
  rw [etree] at e5
  have e6 := F_same_bool (wonW s way) (wonW s way) w1
  have e7 : fComp [7] [14] (.nm 14) false (iSq (fVar 7)) fYes (fPr pLen false (fCo false (fVar 14) fN)) (lS (some (.d (li s), o2)) tn (some (.d (tl ws), o4)) wn [some (.d (ti way), true), some (.d (tt (cutN s way)), true), r8, r9, r10, r11, r12, some (.d (ti way), true), r14', r15, r16, r17, r18, r19, r20, r21, r22, none] w1) = _ :=
    comp_mapT ti (fun x => .int (x.length : Nat)) (fun _ => true) (cutN s way) (by simp [tt]) (fun x _ => by simp [turnE, wipeL]; simp [ti]) hls
  rw [map_il, cutN_lens s way hw.len, all_t] at e7
  refine ⟨r14', ?_⟩
  have ew : ((won (cutN s way) : Int) == (way.length : Int)) = wonW s way := by
    unfold wonW
    rw [Bool.eq_iff_iff, beq_iff_eq, decide_eq_true_iff]; omega
  simp only [tl, List.map_nil, tt, li, ti, il_nil, lS] at *
  have z1 : pNe (.tuple (il way)) (.tuple (il way)) = some (.bool false) := by have := pNe_ti way way; simpa [ti] using this
  have z2 : pNe (.list (il s)) (.list (il s)) = some (.bool false) := by have := pNe_li s s; simpa [li] using this
  obtain ⟨fr6, e6⟩ := e6
  have z3 : pIsD .tuple (.tuple (List.map ti (cutN s way))) = some (.bool true) := rfl
  have z4 := pEq_tree (wonW s way)
  simp -implicitDefEqProofs at e2 e6
  have a0 : L2.atI [PyData.int ↑(won (cutN s way)), PyData.int ↑(walkN (total (cutN s way)) (cutN s way) 0).snd.fst, PyData.list (il (walkN (total (cutN s way)) (cutN s way) 0).snd.snd)] 0 = some (PyData.int ↑(won (cutN s way))) := atN _ 0
  have a1 : L2.atI [PyData.str (if wonW s way = true then Str.ofString "tree" else Str.ofString "ring"), v] 0 = some (PyData.str (if wonW s way = true then Str.ofString "tree" else Str.ofString "ring")) := atN _ 0
  simp -implicitDefEqProofs [b3a, lS, F__law_draw, ed, atN, hd, fFor_ap, ti, e1, e2, e7, fOr, fNot, z1, z2, z3, e3, a0, ew, e4, e6, e5, a1, z4]
end Law

set_option Elab.async false
set_option linter.all false
set_option maxRecDepth 100000
set_option autoImplicit false
set_option maxHeartbeats 4000000
namespace Law
def at2 (P : List (List Nat)) (k j : Nat) : Nat := (P.getD k []).getD j 0
def put2 (P : List (List Nat)) (k j v : Nat) : List (List Nat) := P.set k ((P.getD k []).set j v)
def swapN (P : List (List Nat)) (k1 j1 k2 j2 : Nat) : List (List Nat) := put2 (put2 P k1 j1 (at2 P k2 j2)) k2 j2 (at2 P k1 j1)
theorem count_set1 (x v : Nat) : ∀ (r : List Nat) (j : Nat), j < r.length → (r.set j v).count x + (if r.getD j 0 = x then 1 else 0) = r.count x + (if v = x then 1 else 0)
  | y :: r, 0, _ => by simp [List.count_cons]; omega
  | y :: r, j + 1, h => by
    have := count_set1 x v r j (by simpa using h)
    simp [List.count_cons] at this ⊢
    omega
theorem count_put (x v : Nat) : ∀ (P : List (List Nat)) (k j : Nat), k < P.length → j < lenAt P k → (put2 P k j v).flatten.count x + (if at2 P k j = x then 1 else 0) = P.flatten.count x + (if v = x then 1 else 0)
  | p :: P, 0, j, _, h => by
    have := count_set1 x v p j (by simpa [lenAt] using h)
    simp [put2, at2, List.count_append] at this ⊢
    omega
  | p :: P, k + 1, j, hk, h => by
    have := count_put x v P k j (by simpa using hk) (by simpa [lenAt] using h)
    simp [put2, at2, List.count_append] at this ⊢
    omega
theorem lenAt_put {P : List (List Nat)} {k j v : Nat} (hk : k < P.length) (i : Nat) : lenAt (put2 P k j v) i = lenAt P i := by
  unfold lenAt put2
  rw [List.getD_eq_getElem?_getD, List.getD_eq_getElem?_getD, List.getD_eq_getElem?_getD]
  by_cases h : k = i
  · subst h
    rw [List.getElem?_set_self hk]; simp
  · rw [List.getElem?_set_ne h]
theorem at2_put {P : List (List Nat)} {k j k2 j2 v : Nat} (hk : k < P.length) (hj : j < lenAt P k) (hv : v = at2 P k2 j2) : at2 (put2 P k j v) k2 j2 = v := by
  unfold at2 put2
  rw [List.getD_eq_getElem?_getD (l := P.set _ _)]
  by_cases h : k = k2
  · subst h
    rw [List.getElem?_set_self hk]
    by_cases hjj : j = j2
    · subst hjj
      have hj' : j < (P.getD k []).length := hj
      show ((P.getD k []).set j v).getD j 0 = v
      rw [List.getD_eq_getElem?_getD, List.getElem?_set_self hj']; rfl
    · show ((P.getD k []).set j v).getD j2 0 = v
      rw [List.getD_eq_getElem?_getD, List.getElem?_set_ne hjj, ← List.getD_eq_getElem?_getD]
      exact hv.symm
  · rw [List.getElem?_set_ne h, ← List.getD_eq_getElem?_getD]
    exact hv.symm
theorem leads_put {P : List (List Nat)} {k j v : Nat} (hk : k < P.length) (hj : j + 1 < lenAt P k) : leadsN (put2 P k j v) = leadsN P := by
  apply List.ext_getElem?
  intro i
  unfold leadsN put2
  rw [List.getElem?_map, List.getElem?_map]
  by_cases h : k = i
  · subst h
    rw [List.getElem?_set_self hk, List.getElem?_eq_getElem hk]
    have e : P.getD k [] = P[k] := by rw [List.getD_eq_getElem?_getD, List.getElem?_eq_getElem hk]; rfl
    have hj' : j + 1 < P[k].length := by unfold lenAt at hj; rw [e] at hj; exact hj
    rw [e]
    have hh : (P[k].set j v).getLast? = P[k].getLast? := by rw [List.getLast?_eq_getElem?, List.getLast?_eq_getElem?, List.length_set, List.getElem?_set_ne (by omega)]
    show some ((P[k].set j v).getLast?.getD 0) = some (P[k].getLast?.getD 0)
    rw [hh]
  · rw [List.getElem?_set_ne h]
theorem total_lens {P Q : List (List Nat)} (hl : P.length = Q.length) (h : ∀ i, lenAt P i = lenAt Q i) : total P = total Q := by
  unfold total
  have : P.map List.length = Q.map List.length := by
    apply List.ext_getElem?
    intro i
    rw [List.getElem?_map, List.getElem?_map]
    have hi := h i
    unfold lenAt at hi
    rw [List.getD_eq_getElem?_getD, List.getD_eq_getElem?_getD] at hi
    by_cases hp : i < P.length
    · rw [List.getElem?_eq_getElem hp, List.getElem?_eq_getElem (by omega)] at hi ⊢
      exact congrArg some hi
    · rw [List.getElem?_eq_none (by omega), List.getElem?_eq_none (by omega)]
  rw [this]
theorem swap_fair {P : List (List Nat)} (F : Fair P) {k1 j1 k2 j2 : Nat} (h1 : k1 < P.length) (g1 : j1 + 1 < lenAt P k1) (h2 : k2 < P.length) (g2 : j2 + 1 < lenAt P k2) :
    Fair (swapN P k1 j1 k2 j2) ∧ leadsN (swapN P k1 j1 k2 j2) = leadsN P ∧ total (swapN P k1 j1 k2 j2) = total P ∧ (swapN P k1 j1 k2 j2).length = P.length := by
  have l1 : (put2 P k1 j1 (at2 P k2 j2)).length = P.length := by unfold put2; rw [List.length_set]
  have l2 : (swapN P k1 j1 k2 j2).length = P.length := by unfold swapN; rw [← l1]; unfold put2; rw [List.length_set]
  have la : ∀ i, lenAt (swapN P k1 j1 k2 j2) i = lenAt P i := fun i => by
    unfold swapN
    rw [lenAt_put (by rw [l1]; exact h2), lenAt_put h1]
  have hc : ∀ x, (swapN P k1 j1 k2 j2).flatten.count x = P.flatten.count x := fun x => by
    have c1 := count_put x (at2 P k2 j2) P k1 j1 h1 (by omega)
    have c2 := count_put x (at2 P k1 j1) (put2 P k1 j1 (at2 P k2 j2)) k2 j2 (by rw [l1]; exact h2) (by rw [lenAt_put h1]; omega)
    rw [at2_put h1 (by omega) rfl] at c2
    unfold swapN
    omega
  refine ⟨⟨fun p hp c hcp => ?_, fun p hp z => ?_, by rw [l2]; exact F.pos, fun k hk => ?_⟩, ?_, total_lens l2 la, l2⟩
  · rw [l2]
    have m1 : c ∈ (swapN P k1 j1 k2 j2).flatten := List.mem_flatten.mpr ⟨p, hp, hcp⟩
    have m2 : 0 < P.flatten.count c := by rw [← hc]; exact List.count_pos_iff.mpr m1
    obtain ⟨q, hq, hcq⟩ := List.mem_flatten.mp (List.count_pos_iff.mp m2)
    exact F.fit q hq c hcq
  · obtain ⟨i, hi, e⟩ := List.getElem_of_mem hp
    have h := la i
    have hi' : i < P.length := by rw [← l2]; exact hi
    unfold lenAt at h
    rw [List.getD_eq_getElem?_getD, List.getD_eq_getElem?_getD, List.getElem?_eq_getElem hi, List.getElem?_eq_getElem hi', e, z] at h
    exact F.ne _ (List.getElem_mem hi') (List.eq_nil_of_length_eq_zero h.symm)
  · rw [hc, la]
    exact F.cnt k (by rw [← l2]; exact hk)
  · unfold swapN
    rw [leads_put (by rw [l1]; exact h2) (by rw [lenAt_put h1]; exact g2), leads_put h1 g1]
open PySem PySem.Spec PyProof.Rows L2 Vv
@[simp] theorem il_set (xs : List Nat) (j v : Nat) : (il xs).set j (.int (v : Int)) = il (xs.set j v) := by unfold il; rw [List.map_set]
theorem li_set (P : List (List Nat)) (k : Nat) (r : List Nat) : (P.map li).set k (li r) = (P.set k r).map li := by rw [List.map_set]
@[simp] theorem fSw_ap {β : Type} (i1 : Nat) (p1 : PF β) (k1 : EF β) (i2 : Nat) (p2 : PF β) (k2 : EF β) (fa : AF β) (st : S β) : fSw i1 p1 k1 i2 p2 k2 fa st = bA (fa st) fun vs s0 => match vs with
  | [(.d d1, _), (.d d2, _)] => gd (im d1 && im d2) (bO (fSetI i1 [] p1 k1 (fC d1) s0) (fSetI i2 [] p2 k2 (fC d2)))
  | _ => none := rfl
theorem half_b {s way : List Nat} (hw : Way s way) (h3 : s.length ≤ 3) (h0 : 0 < s.length) (h7 : s.sum ≤ 7) (hq : ∀ x ∈ s, 1 ≤ x) {w : Bw} (how : w.Ok) {sz wy wn tn r6 r8 r9 r10 r11 r12 r13 r14 r16 r17 r18 r19 r20 r21 r22 : Sl} : ∃ r14' r16' r17' r19' r20' r21' w', w'.Ok ∧
    b3b (lS sz tn wy wn [r6, some (.d (tt (cutN s way)), true), r8, r9, r10, r11, r12, r13, r14, some (.d (.bool (wonW s way)), true), r16, r17, r18, r19, r20, r21, r22, none] w) =
    some (.nx (lS sz tn wy wn [r6, some (.d (tt (cutN s way)), true), r8, r9, r10, r11, r12, r13, r14', some (.d (.bool (wonW s way)), true), r16', r17', r18, r19', r20', r21', r22, none] w')) := by
  have hF := fair_cut hw h0 hq
  have hlen : (cutN s way).length = s.length := cutN_length s way
  have hls : (cutN s way).length ≤ sizeLine := by rw [hlen]; exact Nat.le_trans h3 (by decide)
  have htot := total_cut hw.len
  have ewon : wonW s way = decide (won (cutN s way) = total (cutN s way)) := by unfold wonW; rw [htot]
  generalize hP : cutN s way = P at *
  have hlb : ∀ k, k < P.length → lenAt P k ≤ 1000 ∧ 0 < lenAt P k := fun k hk => by
    have e : lenAt P k = P[k].length := by unfold lenAt; rw [List.getD_eq_getElem?_getD, List.getElem?_eq_getElem hk]; rfl
    have h1 : P[k].length ≤ total P := le_sum (List.mem_map.mpr ⟨_, List.getElem_mem hk, rfl⟩)
    have h2 := List.length_pos_iff.mpr (hF.ne _ (List.getElem_mem hk))
    have := hw.len
    omega
  obtain ⟨r17', e1⟩ := fl_b1 hlb (A0 := none) (A1 := some (.box, true)) (A2 := sz) (A3 := tn) (A4 := wy) (A5 := wn) (A6 := r6) (A8 := r8) (A9 := r9) (A10 := r10) (A11 := r11) (A12 := r12) (A13 := r13) (A14 := r14) (A15 := some (.d (.bool (wonW s way)), true)) (r18 := r18) (o7 := true) (rest := [r19, r20, r21, r22, none]) (w := w) (List.range P.length) [] r17 (fun k hk => List.mem_range.mp hk) (by simp; exact Nat.le_trans (by omega : _ ≤ 3000) (by decide))
  have hb : rgB (P.length : Int) = true := by unfold rgB; rw [decide_eq_true_iff]; omega
  generalize hfree : (List.range P.length).flatMap (freeK P) = free at *
  have hin : ∀ x ∈ free, ∃ k j, x = [k, j] ∧ k < P.length ∧ j + 1 < lenAt P k := fun x hx => by
    rw [← hfree] at hx
    obtain ⟨k, hk, hx⟩ := List.mem_flatMap.mp hx
    obtain ⟨j, hj, rfl⟩ := List.mem_map.mp hx
    have hj := List.mem_range.mp hj
    exact ⟨k, j, rfl, List.mem_range.mp hk, by omega⟩
  by_cases hf : 1 < free.length
  · have hfb : free.length < 1073741824 := by
      rw [← hfree]
      refine Nat.lt_of_le_of_lt (flat_le (freeK P) 1000 _ fun k hk => ?_) (by simp; omega)
      have := (hlb k (List.mem_range.mp hk)).1
      unfold freeK; simp; omega
    obtain ⟨d1, w1, ed1, hd1, o1⟩ := F_draw_eq (m := free.length) (by omega) hfb how
    obtain ⟨d2, w2, ed2, hd2, o2⟩ := F_draw_eq (m := free.length) (by omega) hfb o1
    obtain ⟨k1, j1, x1, hk1, hj1⟩ := hin _ (List.getElem_mem hd1)
    obtain ⟨k2, j2, x2, hk2, hj2⟩ := hin _ (List.getElem_mem hd2)
    obtain ⟨hS, hSl, hSt, hSn⟩ := swap_fair hF hk1 hj1 hk2 hj2
    have wS : decide (won (swapN P k1 j1 k2 j2) = total (swapN P k1 j1 k2 j2)) = wonW s way := by
      rw [ewon, decide_eq_decide, clock hS, clock hF, hSl]
    have e4 := F_is_won_eq (w := w2) hS.fit hS.pos (by rw [hSn]; exact hls) (by rw [hSt, htot, hw.len]; omega)
    rw [wS] at e4
    obtain ⟨fr6, e6⟩ := F_same_bool (wonW s way) (wonW s way) w2
    refine ⟨r14, some (.d (tl free), true), r17', some (.d (ti [k1, j1]), true), some (.d (ti [k2, j2]), true), some (.d (ll (swapN P k1 j1 k2 j2)), true), w2, o2, ?_⟩
    have hf' : (1 : Int) < (free.length : Int) := by omega
    have q1 : free[d1]? = some [k1, j1] := by rw [List.getElem?_eq_getElem hd1, x1]
    have q2 : free[d2]? = some [k2, j2] := by rw [List.getElem?_eq_getElem hd2, x2]
    have e5 := comp_mapT (m := [7]) (vs := [14]) (p := .nm 14) (fi := iSq (fVar 7)) (fe := fPr pList true (fCo false (fVar 14) (fN))) (sl := [none, some (R.box, true), sz, tn, wy, wn, r6, some (.d (tt P), true), r8, r9, r10, r11, r12, r13, r14, some (.d (.bool (wonW s way)), true), some (.d (tl free), true), r17', r18, some (.d (ti [k1, j1]), true), some (.d (ti [k2, j2]), true), r21, r22, none]) (w := w2) ti li (fun _ => true) P (by simp [tt]) (fun x _ => by simp [turnE, wipeL]; simp [ti, li]) hls
    have e7 := comp_mapF (m := [21]) (vs := [22]) (p := .nm 22) (fi := iSq (fVar 21)) (fe := fPr pTuple false (fCo false (fVar 22) (fN))) (sl := [none, some (R.box, true), sz, tn, wy, wn, r6, some (.d (tt P), true), r8, r9, r10, r11, r12, r13, r14, some (.d (.bool (wonW s way)), true), some (.d (tl free), true), r17', r18, some (.d (ti [k1, j1]), true), some (.d (ti [k2, j2]), true), some (.d (ll (swapN P k1 j1 k2 j2)), true), r22, none]) (w := w2) li ti (fun _ => true) (swapN P k1 j1 k2 j2) (by simp [ll]) (fun x _ => by simp [turnE, wipeL]; simp [ti, li]) (by rw [hSn]; exact hls)
    have c10 : pIdx (ti [k1, j1]) (.int 0) = some (.int (k1 : Int)) := atN _ 0
    have c11 : pIdx (ti [k1, j1]) (.int 1) = some (.int (j1 : Int)) := atN _ 1
    have c20 : pIdx (ti [k2, j2]) (.int 0) = some (.int (k2 : Int)) := atN _ 0
    have c21 : pIdx (ti [k2, j2]) (.int 1) = some (.int (j2 : Int)) := atN _ 1
    have im1' : im (ti [k1, j1]) = true := im_ti _
    have im2' : im (ti [k2, j2]) = true := im_ti _
    have row : ∀ (Q : List (List Nat)) (k j : Nat), k < Q.length → j < lenAt Q k → ∃ r, Q[k]? = some r ∧ Q.getD k [] = r ∧ (il r)[j]? = some (.int (at2 Q k j : Int)) ∧ ixN Q.length (k : Int) = some k ∧ ixN r.length (j : Int) = some j := fun Q k j hk hj => by
      have e : Q.getD k [] = Q[k] := by rw [List.getD_eq_getElem?_getD, List.getElem?_eq_getElem hk]; rfl
      have hj' : j < Q[k].length := by unfold lenAt at hj; rw [e] at hj; exact hj
      refine ⟨Q[k], List.getElem?_eq_getElem hk, e, ?_, ixNat hk, ixNat hj'⟩
      rw [il_get, List.getElem?_eq_getElem hj']
      unfold at2
      rw [e, List.getD_eq_getElem?_getD, List.getElem?_eq_getElem hj']; rfl
    obtain ⟨r1, m1, gd1, g1, n1, i1⟩ := row P k1 j1 hk1 (by omega)
    obtain ⟨r2, m2, _, g2, n2, i2⟩ := row P k2 j2 hk2 (by omega)
    have lP1 : (put2 P k1 j1 (at2 P k2 j2)).length = P.length := by unfold put2; rw [List.length_set]
    obtain ⟨r3, m3, gd3, _, n3, i3⟩ := row (put2 P k1 j1 (at2 P k2 j2)) k2 j2 (by rw [lP1]; exact hk2) (by rw [lenAt_put hk1]; omega)
    have s1 : (P.map li).set k1 (.list (il (r1.set j1 (at2 P k2 j2)))) = (put2 P k1 j1 (at2 P k2 j2)).map li := by
      show (P.map li).set k1 (li (r1.set j1 (at2 P k2 j2))) = _
      rw [li_set]; unfold put2; rw [gd1]
    have s2 : ((put2 P k1 j1 (at2 P k2 j2)).map li).set k2 (.list (il (r3.set j2 (at2 P k1 j1)))) = (swapN P k1 j1 k2 j2).map li := by
      show (List.map li (put2 P k1 j1 (at2 P k2 j2))).set k2 (li (r3.set j2 (at2 P k1 j1))) = _
      rw [li_set]; unfold swapN; rw [show put2 (put2 P k1 j1 (at2 P k2 j2)) k2 j2 (at2 P k1 j1) = (put2 P k1 j1 (at2 P k2 j2)).set k2 (r3.set j2 (at2 P k1 j1)) by unfold put2 at gd3 ⊢; rw [gd3]]
    generalize put2 P k1 j1 (at2 P k2 j2) = P1 at *
    generalize swapN P k1 j1 k2 j2 = P2 at *
    generalize at2 P k1 j1 = V1 at *
    generalize at2 P k2 j2 = V2 at *
    simp only [tl, List.map_nil, tt, ll, lS, List.nil_append, all_t] at *
    simp -implicitDefEqProofs [b3b, fFor_ap, hb, rg_il, e1, hf', F__law_draw, ed1, ed2, atN, q1, q2, e5, c10, c11, c20, c21, im1', im2', m1, m2, g1, g2, n1, i1, s1, m3, n3, i3, s2, li]
    simp -implicitDefEqProofs at e6
    simp -implicitDefEqProofs [fNot, e7, e4, e6]
  · refine ⟨r14, some (.d (tl free), true), r17', r19, r20, r21, w, how, ?_⟩
    have hf' : ¬ ((1 : Int) < (free.length : Int)) := by omega
    simp only [tl, List.map_nil, tt, lS, List.nil_append] at *
    simp -implicitDefEqProofs [b3b, fFor_ap, hb, rg_il, e1, hf']
end Law

set_option Elab.async false
set_option linter.all false
set_option maxRecDepth 100000
set_option autoImplicit false
set_option maxHeartbeats 4000000
namespace Law
open PySem PySem.Spec PyProof.Rows L2 Vv
/-- the state in which a turn begins -/
def Inv (s : List Nat) (ws : List (List Nat)) (wn : Sl) (st : S Bw) : Prop := ∃ (o2 o4 : Bool) (r3 r6 r7 r8 r9 r10 r11 r12 r13 r14 r15 r16 r17 r18 r19 r20 r21 r22 : Sl) (w : Bw), w.Ok ∧ st = lS (some (.d (li s), o2)) r3 (some (.d (tl ws), o4)) wn [r6, r7, r8, r9, r10, r11, r12, r13, r14, r15, r16, r17, r18, r19, r20, r21, r22, none] w
theorem turn_b3 {s : List Nat} (h3 : s.length ≤ 3) (h0 : 0 < s.length) (h7 : s.sum ≤ 7) (hq : ∀ x ∈ s, 1 ≤ x) {ws : List (List Nat)} (hws : ∀ x ∈ ws, Way s x) (hwl : 0 < ws.length) (hwb : ws.length < 1073741824) {wn : Sl} {i : Nat} {st : S Bw} (h : Inv s ws wn st) : ∃ st2, turn (.nm 3) b3_law (.int (i : Int)) st = some (.nx st2) ∧ Inv s ws wn st2 := by
  obtain ⟨o2, o4, r3, r6, r7, r8, r9, r10, r11, r12, r13, r14, r15, r16, r17, r18, r19, r20, r21, r22, w, how, rfl⟩ := h
  obtain ⟨d, w1, ed, hd, o1⟩ := F_draw_eq (m := ws.length) hwl hwb how
  have hW := hws _ (List.getElem_mem hd)
  obtain ⟨r14', e1⟩ := half_a hW h3 h0 h7 hq (rest := b3b) (ws := ws) (d := d) (List.getElem?_eq_getElem hd) ed (o2 := o2) (o4 := o4) (wn := wn) (tn := some (.d (.int (i : Int)), true)) (r6 := r6) (r7 := r7) (r8 := r8) (r9 := r9) (r10 := r10) (r11 := r11) (r12 := r12) (r13 := r13) (r14 := r14) (r15 := r15) (r16 := r16) (r17 := r17) (r18 := r18) (r19 := r19) (r20 := r20) (r21 := r21) (r22 := r22)
  obtain ⟨q14, q16, q17, q19, q20, q21, w2, o2', e2⟩ := half_b hW h3 h0 h7 hq o1 (sz := some (.d (li s), o2)) (wy := some (.d (tl ws), o4)) (wn := wn) (tn := some (.d (.int (i : Int)), true)) (r6 := some (.d (ti ws[d]), true)) (r8 := r8) (r9 := r9) (r10 := r10) (r11 := r11) (r12 := r12) (r13 := some (.d (ti ws[d]), true)) (r14 := r14') (r16 := r16) (r17 := r17) (r18 := r18) (r19 := r19) (r20 := r20) (r21 := r21) (r22 := r22)
  have e : turn (.nm 3) b3_law (.int (i : Int)) (lS (some (.d (li s), o2)) r3 (some (.d (tl ws), o4)) wn [r6, r7, r8, r9, r10, r11, r12, r13, r14, r15, r16, r17, r18, r19, r20, r21, r22, none] w) = _ := e1.trans e2
  exact ⟨_, e, ⟨o2, o4, _, _, _, _, _, _, _, _, _, _, _, _, _, _, _, _, _, _, w2, o2', rfl⟩⟩
theorem fl_b3 {s : List Nat} (h3 : s.length ≤ 3) (h0 : 0 < s.length) (h7 : s.sum ≤ 7) (hq : ∀ x ∈ s, 1 ≤ x) {ws : List (List Nat)} (hws : ∀ x ∈ ws, Way s x) (hwl : 0 < ws.length) (hwb : ws.length < 1073741824) {wn : Sl} : ∀ (is : List Nat) {st : S Bw}, Inv s ws wn st → ∃ st2, fFl (.nm 3) b3_law (il is) st = some (.nx st2) ∧ Inv s ws wn st2
  | [], st, h => ⟨st, rfl, h⟩
  | i :: is, st, h => by
    obtain ⟨st2, e, h2⟩ := turn_b3 h3 h0 h7 hq hws hwl hwb (i := i) h
    rw [il_cons, fFl_turn, e, bL_nx]
    exact fl_b3 h3 h0 h7 hq hws hwl hwb is h2
/-! ### piles drawn at random -/
theorem rpl_one (k n : Nat) : rpl k [PyData.int (n : Int)] = il (List.replicate k n) := by
  unfold rpl il
  induction k with
  | zero => rfl
  | succ k ih => rw [List.replicate_succ, List.replicate_succ, List.flatten_cons, ih]; rfl
theorem pMul_rep {xs : List PyData} {k : Nat} (h : imA xs = true) (hk : k < 2 ^ 62) (hl : xs.length * k ≤ sizeLine) : pMul (.list xs) (.int (k : Int)) = some (.list (rpl k xs)) := by
  unfold pMul
  have h1 : decide (-(2 ^ 63) ≤ (k : Int) ∧ (k : Int) < 2 ^ 63) = true := decide_eq_true (by omega)
  have h2 : decide (xs.length * k ≤ sizeLine) = true := decide_eq_true hl
  simp only [Int.toNat_natCast, h, h1, h2, Bool.and_self, gd_t]
theorem pMul_one (n m : Nat) (hm : m ≤ 1000) : pMul (.list [.int (n : Int)]) (.int (m : Int)) = some (.list (il (List.replicate m n))) := by
  have hz : 1000 ≤ sizeLine := by decide
  have := pMul_rep (xs := [PyData.int (n : Int)]) (k := m) rfl (by omega) (by simp; omega)
  rw [this, rpl_one]
theorem turn_left {A0 A1 A2 s4 s6 s7 s8 s9 : Sl} {sizes left : List Nat} {n : Nat} {w : Bw} (hn : n < sizes.length) (hb : sizes[n] ≤ 1000) (hl : left.length + sizes[n] ≤ sizeLine) :
    turn (.nm 7) b2__law_piles (.int (n : Int)) (⟨[A0, A1, A2, some (.d (li sizes), true), s4, some (.d (li left), true), s6, s7, s8, s9], w⟩ : S Bw) = some (.nx ⟨[A0, A1, A2, some (.d (li sizes), true), s4, some (.d (li (left ++ List.replicate sizes[n] n)), true), s6, some (.d (.int (n : Int)), true), s8, s9], w⟩) := by
  have z1 := pMul_one n sizes[n] hb
  have z2 := pAdd_list (x := il left) (y := il (List.replicate sizes[n] n)) (by simp; exact hl)
  generalize hM : sizes[n] = m at *
  simp -implicitDefEqProofs [turn, b2__law_piles, li, atN, hn, hM]
  simp -implicitDefEqProofs [z1, z2]
theorem fl_left {A0 A1 A2 s4 s6 s8 s9 : Sl} {sizes : List Nat} {w : Bw} (hb : ∀ x ∈ sizes, x ≤ 1000) : ∀ (ns : List Nat) (left : List Nat) (s7 : Sl), (∀ n ∈ ns, n < sizes.length) → left.length + ns.length * 1000 ≤ sizeLine → ∃ s7',
    fFl (.nm 7) b2__law_piles (il ns) (⟨[A0, A1, A2, some (.d (li sizes), true), s4, some (.d (li left), true), s6, s7, s8, s9], w⟩ : S Bw) = some (.nx ⟨[A0, A1, A2, some (.d (li sizes), true), s4, some (.d (li (left ++ ns.flatMap fun n => List.replicate (sizes.getD n 0) n)), true), s6, s7', s8, s9], w⟩)
  | [], left, s7, _, _ => ⟨s7, by simp⟩
  | n :: ns, left, s7, hn, hl => by
    rw [List.length_cons] at hl
    have hn0 := hn n List.mem_cons_self
    have hb0 := hb _ (List.getElem_mem hn0)
    have e := turn_left (A0 := A0) (A1 := A1) (A2 := A2) (s4 := s4) (s6 := s6) (s7 := s7) (s8 := s8) (s9 := s9) (left := left) (w := w) hn0 hb0 (by omega)
    obtain ⟨s7', e2⟩ := fl_left (A0 := A0) (A1 := A1) (A2 := A2) (s4 := s4) (s6 := s6) (s8 := s8) (s9 := s9) (w := w) hb ns (left ++ List.replicate sizes[n] n) (some (.d (.int (n : Int)), true)) (fun x hx => hn x (List.mem_cons_of_mem _ hx)) (by simp; omega)
    have eg : sizes.getD n 0 = sizes[n] := by rw [List.getD_eq_getElem?_getD, List.getElem?_eq_getElem hn0]; rfl
    refine ⟨s7', ?_⟩
    rw [il_cons, fFl_turn, e, bL_nx, e2, List.flatMap_cons, eg, List.append_assoc]
theorem lc_pop {A1 A2 A3 s4 s6 s7 s8 : Sl} : ∀ (ds : List Nat) (left : List Nat) (s9 : Sl) (w : Bw), w.Ok → ds.length ≤ left.length → left.length < 100000 → ∃ (xs left' : List Nat) (s9' : Sl) (w' : Bw),
    fLc [9] (.nm 9) true fYes (fPopAt 5 (pl0 5) (fCall F__law_draw (fCo false (fVar 0) (fCo false (fPr pLen false (fCo false (fVar 5) (fN))) (fN))))) (il ds) (⟨[some (.box, false), A1, A2, A3, s4, some (.d (li left), true), s6, s7, s8, s9], w⟩ : S Bw) =
      some (xs.map (fun x => (R.d (ni x), true)), ⟨[some (.box, false), A1, A2, A3, s4, some (.d (li left'), true), s6, s7, s8, s9'], w'⟩) ∧ xs.length = ds.length ∧ left'.length + ds.length = left.length ∧ (∀ x ∈ xs, x ∈ left) ∧ (∀ x ∈ left', x ∈ left) ∧ w'.Ok
  | [], left, s9, w, how, _, _ => ⟨[], left, s9, w, rfl, rfl, rfl, fun _ h => (nomatch h), fun _ h => h, how⟩
  | d :: ds, left, s9, w, how, hl, hb => by
    rw [List.length_cons] at hl
    obtain ⟨k, w1, ed, hk, o1⟩ := F_draw_eq (m := left.length) (by omega) (by omega) how
    obtain ⟨xs, left', s9', w', e2, a1, a2, a3, a4, o2⟩ := lc_pop (A1 := A1) (A2 := A2) (A3 := A3) (s4 := s4) (s6 := s6) (s7 := s7) (s8 := s8) ds (left.eraseIdx k) none w1 o1 (by rw [List.length_eraseIdx]; split <;> omega) (by rw [List.length_eraseIdx]; split <;> omega)
    refine ⟨left[k] :: xs, left', s9', w', ?_, by simp [a1], by rw [List.length_eraseIdx, if_pos hk] at a2; rw [List.length_cons]; omega, fun x hx => ?_, fun x hx => List.mem_of_mem_eraseIdx (a4 x hx), o2⟩
    · have ik : ixN left.length (k : Int) = some k := ixNat hk
      have gk : (il left)[k]? = some (.int (left[k] : Int)) := by rw [il_get, List.getElem?_eq_getElem hk]; rfl
      have ge : (il left).eraseIdx k = il (left.eraseIdx k) := by
        unfold il
        rw [List.eraseIdx_eq_take_drop_succ, List.eraseIdx_eq_take_drop_succ, List.map_append, List.map_take, List.map_drop]
      have hz : decide (-(2 ^ 63) ≤ (k : Int) ∧ (k : Int) < 2 ^ 63) = true := decide_eq_true (by omega)
      rw [il_cons, fLc]
      have hk2 : (k : Int) < 9223372036854775808 := by omega
      simp only [li, F__law_draw] at e2 ⊢
      simp -implicitDefEqProofs [wipeL, ed, ik, gk, ge, hk2, e2]
      rfl
    · rcases List.mem_cons.mp hx with rfl | hx
      · exact List.getElem_mem hk
      · exact List.mem_of_mem_eraseIdx (a3 x hx)
end Law

set_option Elab.async false
set_option linter.all false
set_option maxRecDepth 100000
set_option autoImplicit false
set_option maxHeartbeats 4000000
namespace Law
open PySem PySem.Spec PyProof.Rows L2 Vv
theorem turn_found {A1 A2 A3 s4 s7 s8 s9 : Sl} {left : List Nat} {found : List (List Nat)} {c : Nat} {w : Bw} (how : w.Ok) (hc : c ≤ left.length) (hb : left.length < 100000) (hf : found.length < 100000) : ∃ (xs left' : List Nat) (s8' s9' : Sl) (w' : Bw),
    turn (.nm 8) b1__law_piles (.int (c : Int)) (⟨[some (.box, false), A1, A2, A3, s4, some (.d (li left), true), some (.d (tl found), true), s7, s8, s9], w⟩ : S Bw) =
      some (.nx ⟨[some (.box, false), A1, A2, A3, s4, some (.d (li left'), true), some (.d (tl (found ++ [xs])), true), s7, s8', s9'], w'⟩) ∧ xs.length = c ∧ left'.length + c = left.length ∧ (∀ x ∈ xs, x ∈ left) ∧ (∀ x ∈ left', x ∈ left) ∧ w'.Ok := by
  obtain ⟨xs, left', s9', w', e, a1, a2, a3, a4, o2⟩ := lc_pop (A1 := A1) (A2 := A2) (A3 := A3) (s4 := s4) (s6 := some (.d (tl found), true)) (s7 := s7) (s8 := some (.d (.int (c : Int)), true)) (List.range c) left s9 w how (by simpa using hc) hb
  rw [List.length_range] at a1 a2
  refine ⟨xs, left', some (.d (.int (c : Int)), true), s9', w', ?_, a1, a2, a3, a4, o2⟩
  have hrb : rgB (c : Int) = true := by unfold rgB; rw [decide_eq_true_iff]; omega
  have hz : 100000 ≤ sizeLine := by decide
  have hx : xs.length ≤ sizeLine := by omega
  have hf' : found.length < sizeLine := by omega
  have td : toDs (xs.map fun x => (R.d (ni x), true)) = some (xs.map ni) := toDs_map ni (fun _ => true) xs
  have al : (xs.map fun x => (R.d (ni x), true)).all (·.2) = true := by rw [all_map ni (fun _ => true), all_t]
  have ht : PyData.tuple (xs.map ni) = ti xs := rfl
  have hi : imA (xs.map ni) = true := imA_il xs
  simp only [tl] at e ⊢
  simp -implicitDefEqProofs [turn, b1__law_piles, fComp_ap, hrb, rg_il, e, td, hx, hf', hi, ht]
theorem fl_found {A1 A2 A3 s4 s7 : Sl} : ∀ (cs left : List Nat) (found : List (List Nat)) (s8 s9 : Sl) (w : Bw), w.Ok → cs.sum ≤ left.length → left.length < 100000 → found.length + cs.length < 100000 → ∃ (found' : List (List Nat)) (left' : List Nat) (s8' s9' : Sl) (w' : Bw),
    fFl (.nm 8) b1__law_piles (il cs) (⟨[some (.box, false), A1, A2, A3, s4, some (.d (li left), true), some (.d (tl found), true), s7, s8, s9], w⟩ : S Bw) =
      some (.nx ⟨[some (.box, false), A1, A2, A3, s4, some (.d (li left'), true), some (.d (tl (found ++ found')), true), s7, s8', s9'], w'⟩) ∧ found'.map List.length = cs ∧ (∀ p ∈ found', ∀ x ∈ p, x ∈ left) ∧ w'.Ok
  | [], left, found, s8, s9, w, how, _, _, _ => ⟨[], left, s8, s9, w, by simp, rfl, fun p hp => (nomatch hp), how⟩
  | c :: cs, left, found, s8, s9, w, how, hs, hb, hf => by
    rw [List.sum_cons] at hs
    rw [List.length_cons] at hf
    obtain ⟨xs, left', s8', s9', w1, e1, a1, a2, a3, a4, o1⟩ := turn_found (A1 := A1) (A2 := A2) (A3 := A3) (s4 := s4) (s7 := s7) (s8 := s8) (s9 := s9) (left := left) (found := found) (c := c) how (by omega) hb (by omega)
    obtain ⟨found', left'', s8'', s9'', w2, e2, b1, b2, o2⟩ := fl_found (A1 := A1) (A2 := A2) (A3 := A3) (s4 := s4) (s7 := s7) cs left' (found ++ [xs]) s8' s9' w1 o1 (by omega) (by omega) (by simp; omega)
    refine ⟨xs :: found', left'', s8'', s9'', w2, ?_, by rw [List.map_cons, b1, a1], fun p hp x hx => ?_, o2⟩
    · rw [il_cons, fFl_turn, e1, bL_nx, e2, List.append_assoc]; rfl
    · rcases List.mem_cons.mp hp with rfl | hp
      · exact a3 x hx
      · exact a4 x (b2 p hp x hx)
theorem F_piles_ok {w : Bw} (how : w.Ok) : ∃ (piles : List (List Nat)) (fr : Bool) (w' : Bw), F__law_piles [.box, .d (.int 7), .d (.int 4)] w = some (.d (tt piles), fr, w') ∧ Fit piles ∧ 0 < piles.length ∧ piles.length ≤ 7 ∧ total piles ≤ 28 ∧ w'.Ok := by
  obtain ⟨d, w1, e1, hd, o1⟩ := F_draw_int (m := 7) (by decide) (by decide) how
  have hd : d < 7 := by omega
  obtain ⟨sizes, w2, e2, hl, hq, o2⟩ := comp_draw (Ok := Bw.Ok) (m := [0, 1]) (vs := [4]) (p := .nm 4) (fi := iR1 (fCo false (f2 pAdd true false (fC (.int 1)) (fCall F__law_draw (fCo false (fVar 0) (fCo false (fVar 1) (fN))))) (fN))) (fe := f2 pAdd true false (fC (.int 1)) (fCall F__law_draw (fCo false (fVar 0) (fCo false (fVar 2) (fN))))) (st := ⟨[some (.box, false), some (.d (.int 7), false), some (.d (.int 4), false), none, none, none, none, none, none, none], w⟩) ni (fun x => 1 ≤ x ∧ x ≤ 4) (sl := [some (.box, false), some (.d (.int 7), false), some (.d (.int 4), false), none, none, none, none, none, none, none]) (w := w1) (ds := il (List.range (1 + d)))
    (by
      have hb : rgB (1 + (d : Int)) = true := by unfold rgB; rw [decide_eq_true_iff]; omega
      have hn : (1 + (d : Int)).toNat = 1 + d := by omega
      simp -implicitDefEqProofs [F__law_draw, e1, hb, rg_il, hn])
    (fun k hk w hw => by
      obtain ⟨d', w', e', hd', o'⟩ := F_draw_int (m := 4) (by decide) (by decide) hw
      refine ⟨1 + d', w', ?_, by omega, o'⟩
      obtain ⟨i, _, rfl⟩ := List.mem_map.mp hk
      simp -implicitDefEqProofs [turnE, wipeL]
      simp -implicitDefEqProofs [F__law_draw, e', ni]) o1 (by
        have : 100 ≤ sizeLine := by decide
        simp; omega)
  rw [il_length, List.length_range] at hl
  have hsl : sizes.length ≤ sizeLine := by
    have : 100 ≤ sizeLine := by decide
    omega
  obtain ⟨s7', e3⟩ := fl_left (A0 := some (.box, false)) (A1 := some (.d (.int 7), false)) (A2 := some (.d (.int 4), false)) (s4 := none) (s6 := some (.d (tl []), true)) (s8 := none) (s9 := none) (sizes := sizes) (w := w2) (fun x hx => by have := hq x hx; omega) (List.range sizes.length) [] none (fun n hn => List.mem_range.mp hn) (by
    have : 8000 ≤ sizeLine := by decide
    simp; omega)
  have hlm : ∀ x ∈ (List.range sizes.length).flatMap (fun n => List.replicate (sizes.getD n 0) n), x < sizes.length := fun x hx => by
    obtain ⟨n, hn, hx⟩ := List.mem_flatMap.mp hx
    rw [List.eq_of_mem_replicate hx]
    exact List.mem_range.mp hn
  have hll : ((List.range sizes.length).flatMap (fun n => List.replicate (sizes.getD n 0) n)).length = sizes.sum := by
    have h1 : (List.range sizes.length).map (fun k => sizes.getD k 0) = sizes := List.ext_getElem (by simp) fun i h1 h2 => by simp [h2]
    rw [List.length_flatMap]
    have h2 : (List.range sizes.length).map (fun n => (List.replicate (sizes.getD n 0) n).length) = sizes := by
      conv => rhs; rw [← h1]
      exact List.map_congr_left fun k _ => List.length_replicate
    rw [h2]
  have hsum : sizes.sum ≤ 28 := by
    have : ∀ xs : List Nat, (∀ x ∈ xs, 1 ≤ x ∧ x ≤ 4) → xs.sum ≤ 4 * xs.length := fun xs h => by
      induction xs with
      | nil => simp
      | cons x xs ih =>
        have h1 := h x List.mem_cons_self
        have h2 := ih fun y hy => h y (List.mem_cons_of_mem _ hy)
        rw [List.sum_cons, List.length_cons]; omega
    have := this sizes hq
    omega
  generalize (List.range sizes.length).flatMap (fun n => List.replicate (sizes.getD n 0) n) = left at *
  obtain ⟨found, left', s8, s9, w3, e4, b1, b2, o3⟩ := fl_found (A1 := some (.d (.int 7), false)) (A2 := some (.d (.int 4), false)) (A3 := some (.d (li sizes), false)) (s4 := none) (s7 := s7') sizes left [] none none w2 o2 (by omega) (by omega) (by simp; omega)
  have hfl : found.length = sizes.length := by rw [← b1, List.length_map]
  refine ⟨found, true, w3, ?_, fun p hp c hc => by rw [hfl]; exact hlm c (b2 p hp c hc), by omega, by omega, by unfold total; rw [b1]; exact hsum, o3⟩
  have hb : rgB (sizes.length : Int) = true := by unfold rgB; rw [decide_eq_true_iff]; omega
  have e2' : fComp [0, 1] [4] (.nm 4) false (iR1 (fCo false (f2 pAdd true false (fC (.int 1)) (fCall F__law_draw (fCo false (fVar 0) (fCo false (fVar 1) (fN))))) (fN))) (fYes) (f2 pAdd true false (fC (.int 1)) (fCall F__law_draw (fCo false (fVar 0) (fCo false (fVar 2) (fN))))) (⟨[some (.box, false), some (.d (.int 7), false), some (.d (.int 4), false), none, none, none, none, none, none, none], w⟩ : S Bw) = some (.d (.list (il sizes)), true, ⟨[some (.box, false), some (.d (.int 7), false), some (.d (.int 4), false), none, none, none, none, none, none, none], w2⟩) := e2
  unfold F__law_piles runF f__law_piles
  simp only [tl, li, List.map_nil, List.nil_append, il_nil] at e3 e4 ⊢
  simp -implicitDefEqProofs [initS, e2', fFor_ap, hb, rg_il, e3, e4]
  rfl
theorem pMul_int {i j : Nat} (h : i < 2 ^ 60) : pMul (.int (i : Int)) (.int (j : Int)) = some (.int ((i * j : Nat) : Int)) := by
  unfold pMul
  have : mulB (i : Int) (j : Int) = true := by
    unfold mulB
    have : decide ((i : Int).natAbs < 2 ^ 64) = true := decide_eq_true (by omega)
    rw [this]; rfl
  simp only [this, gd_t]
  rfl
theorem ways_some : (sizesL.all fun s => decide (0 < (waysN 10 s).length)) = true := by decide +kernel
theorem law_last {s : List Nat} {ws : List (List Nat)} {wn : Sl} {st : S Bw} (h : Inv s ws wn st) : ∃ fr st2, (fSq (fAsg [1] (.nm 23) (fCall F__law_piles (fCo false (fVar 1) (fCo false (fC (.int 7)) (fCo false (fC (.int 4)) (fN)))))) (fRet (fCall F__law_same (fCo false (fCall F_is_won (fCo false (fVar 23) (fN))) (fCo false (f2 pEq false false (f2 pIdx false false (fCall F__law_played (fCo false (fVar 23) (fN))) (fC (.int 0))) (fPr pSum false (fCo false (fComp [23] [14] (.nm 14) false (iSq (fVar 23)) (fYes) (fPr pLen false (fCo false (fVar 14) (fN)))) (fN)))) (fN)))))) st = some (.rt (.d (.bool true)) fr st2) := by
  obtain ⟨o2, o4, r3, r6, r7, r8, r9, r10, r11, r12, r13, r14, r15, r16, r17, r18, r19, r20, r21, r22, w, how, rfl⟩ := h
  obtain ⟨piles, fr, w', e1, hf, h0, h7, ht, o'⟩ := F_piles_ok how
  have hls : piles.length ≤ sizeLine := Nat.le_trans h7 (by decide)
  have e2 := F_is_won_eq (w := w') hf h0 hls (by omega)
  obtain ⟨fr3, e3⟩ := F_played_eq (w := w') (piles := piles) (tt piles) (.inl rfl) hf h0 hls (by omega)
  have e4 := comp_mapT (m := [23]) (vs := [14]) (p := .nm 14) (fi := iSq (fVar 23)) (fe := fPr pLen false (fCo false (fVar 14) (fN))) (sl := [none, some (R.box, true), some (.d (li s), o2), r3, some (.d (tl ws), o4), wn, r6, r7, r8, r9, r10, r11, r12, r13, r14, r15, r16, r17, r18, r19, r20, r21, r22, some (.d (tt piles), true)]) (w := w') ti (fun x => .int (x.length : Nat)) (fun _ => true) piles (by simp [tt]) (fun x _ => by simp [turnE, wipeL]; simp [ti]) hls
  rw [map_il, all_t] at e4
  obtain ⟨fr5, e5⟩ := F_same_bool (decide (won piles = total piles)) (decide (won piles = total piles)) w'
  have a0 : L2.atI [PyData.int ↑(won piles), PyData.int ↑(walkN (total piles) piles 0).snd.fst, li (walkN (total piles) piles 0).snd.snd] 0 = some (PyData.int ↑(won piles)) := atN _ 0
  have ew : ((won piles : Int) == ((piles.map List.length).sum : Int)) = decide (won piles = total piles) := by
    rw [Bool.eq_iff_iff, beq_iff_eq, decide_eq_true_iff]; unfold total; omega
  refine ⟨true, ⟨[none, some (R.box, true), some (.d (li s), o2), r3, some (.d (tl ws), o4), wn, r6, r7, r8, r9, r10, r11, r12, r13, r14, r15, r16, r17, r18, r19, r20, r21, r22, some (.d (tt piles), true)], w'⟩, ?_⟩
  simp -implicitDefEqProofs at e5
  simp -implicitDefEqProofs [lS, e1, e2]
  simp -implicitDefEqProofs [e3, e4, a0, ew, e5]
theorem plain : ∀ b : Bw, b.Ok → ∃ fr s, f_law (lawS 22 b) = some (.rt (.d (.bool true)) fr s) := by
  intro b hb
  obtain ⟨sz0, w1, o1, a1, a2, a3, e1⟩ := law_sizes b hb
  obtain ⟨s, o, c1, c2, c3, c4, e2⟩ := law_trim w1 sz0 a1 a2 a3
  have hs := sizes_in c1 c2 c3 c4
  obtain ⟨fr, e3⟩ := F_ways_eq 10 s w1 c1 (by omega) (Nat.le_refl _)
  have hway : ∀ x ∈ waysN 10 s, Way s x := fun x hx => way_of hs hx c1
  have hq : ∀ x ∈ s, 1 ≤ x := fun x hx => (c3 x hx).1
  have hwb : (waysN 10 s).length < 1073741824 := Nat.lt_of_le_of_lt (waysN_le 10 s c1) (by decide)
  have hch := of_decide_eq_true (List.all_eq_true.mp chance_all s hs)
  have hwl : 0 < (waysN 10 s).length := of_decide_eq_true (List.all_eq_true.mp ways_some s hs)
  generalize hws : waysN 10 s = ws at *
  have e4 : ∃ o2 o4, fAsg [2] (.nm 4) (fCall F__law_ways (fCo false (fVar 2) (fN))) (lS (some (.d (li s), o)) none none none (nones 18) w1) = some (.nx (lS (some (.d (li s), o2)) none (some (.d (tl ws), o4)) none (nones 18) w1)) := by
    have e3' : F__law_ways [.d (li s)] w1 = some (.d (tl ws), fr, w1) := e3
    cases fr with
    | true =>
      refine ⟨o, true, ?_⟩
      simp -implicitDefEqProofs [lS, e3']
    | false =>
      refine ⟨false, false, ?_⟩
      simp -implicitDefEqProofs [lS, e3', nones, tl]
  obtain ⟨o2, o4, e4⟩ := e4
  obtain ⟨o2', r6, r7, r8, r9, r10, r11, r12, e5⟩ := fl_b5 c1 c2 c4 (tn := none) (wy := some (.d (tl ws), false)) (w := w1) ws o2 0 none none none none none none none hway
  have e5' : fFor [4] (.nm 6) (iSq (fVar 4)) b5_law (lS (some (.d (li s), o2)) none (some (.d (tl ws), o4)) (some (.d (.int 0), true)) (nones 18) w1) = _ := Eq.trans (by rw [fFor_ap]; simp -implicitDefEqProofs [lS, nones, tl]) e5
  obtain ⟨st2, e6, hI⟩ := fl_b3 c1 c2 c4 hq hway hwl hwb (wn := some (.d (.int ((0 + (ws.filter (wonW s)).length : Nat) : Int)), true)) (List.range 12) (st := lS (some (.d (li s), o2')) none (some (.d (tl ws), false)) (some (.d (.int ((0 + (ws.filter (wonW s)).length : Nat) : Int)), true)) (r6 :: r7 :: r8 :: r9 :: r10 :: r11 :: r12 :: nones 11) w1) ⟨o2', false, none, r6, r7, r8, r9, r10, r11, r12, none, none, none, none, none, none, none, none, none, none, w1, o1, rfl⟩
  obtain ⟨fr7, st3, e7⟩ := law_last hI
  refine ⟨fr7, st3, ?_⟩
  have hs0 : (il s)[0]? = some (.int (s.getD 0 0 : Nat)) := by rw [il_get, List.getD_eq_getElem?_getD, List.getElem?_eq_getElem c2]; rfl
  have b0 : L2.atI (il s) 0 = some (.int (s.getD 0 0 : Nat)) := (atN (il s) 0).trans hs0
  have p1 := pMul_int (i := (ws.filter (wonW s)).length) (j := s.sum) (by
    have := List.length_filter_le (wonW s) ws; omega)
  have p2 := pMul_int (i := ws.length) (j := s.getD 0 0) (by omega)
  rw [hch] at p1
  generalize s.getD 0 0 = x0 at hch hs0 b0 p1 p2
  have er : rgI 0 12 = il (List.range 12) := rfl
  have eb : rgB 12 = true := by decide
  simp only [Nat.zero_add] at e5' e6
  unfold f_law
  rw [fSq_ap, e1, bO_nx, fSq_ap, e2, bO_nx, fSq_ap, e4, bO_nx, fSq_ap]
  have e8 : fAsg [] (.nm 5) (fC (.int 0)) (lS (some (.d (li s), o2)) none (some (.d (tl ws), o4)) none (nones 18) w1) = some (.nx (lS (some (.d (li s), o2)) none (some (.d (tl ws), o4)) (some (.d (.int 0), true)) (nones 18) w1)) := by
    simp -implicitDefEqProofs [lS]
  rw [e8, bO_nx, fSq_ap, e5', bO_nx, fSq_ap]
  have e9 : fIfS (fB (f2 pNe false false (f2 pMul true false (fVar 5) (fPr pSum false (fCo false (fVar 2) (fN)))) (f2 pMul true false (fPr pLen false (fCo false (fVar 4) (fN))) (f2 pIdx false false (fVar 2) (fC (.int 0)))))) (fRet (fC (.bool false))) (fPass) (lS (some (.d (li s), o2')) none (some (.d (tl ws), false)) (some (.d (.int ((ws.filter (wonW s)).length : Int)), true)) (r6 :: r7 :: r8 :: r9 :: r10 :: r11 :: r12 :: nones 11) w1) = some (.nx (lS (some (.d (li s), o2')) none (some (.d (tl ws), false)) (some (.d (.int ((ws.filter (wonW s)).length : Int)), true)) (r6 :: r7 :: r8 :: r9 :: r10 :: r11 :: r12 :: nones 11) w1)) := by
    simp -implicitDefEqProofs [lS, li, tl, b0, p1, p2]
  rw [e9, bO_nx, fSq_ap]
  have e10 : fFor [] (.nm 3) (iR1 (fCo false (fC (.int 12)) (fN))) b3_law (lS (some (.d (li s), o2')) none (some (.d (tl ws), false)) (some (.d (.int ((ws.filter (wonW s)).length : Int)), true)) (r6 :: r7 :: r8 :: r9 :: r10 :: r11 :: r12 :: nones 11) w1) = some (.nx st2) := by
    rw [fFor_ap]
    simp -implicitDefEqProofs only [iR1_ap, fCo_ap, fC_ap, fN_ap, bE_some, bA_some, Bool.not_false, Bool.true_or, gd_t, toDs_cons, toDs_nil, eb, bI_some, if_true]
    rw [show (12 : Int).toNat = 12 from rfl, er]
    exact e6
  rw [e10, bO_nx]
  exact e7
end Law

set_option Elab.async false
set_option linter.all false
set_option maxRecDepth 100000
set_option maxHeartbeats 0
namespace Law
open PySem PySem.Spec PyProof.Rows L2 Vv
section
variable {P : Program} {w : World} {K : PySem.W.Frag} {mg : Str → Option Value} {base : Heap} {f : Addr} {fd : FuncData}
theorem ok_law {fB : Addr} {fdB : FuncData} (plain : ∀ b : Bw, b.Ok → ∃ fr s, f_law (lawS 22 b) = some (.rt (.d (.bool true)) fr s)) (F : FnP K "law" (top 15) f fd) (FB : FnP K "_law_box" (top 8) fB fdB) (gB : mg "_law_box" = some (.ref fB)) (fr : Free mg) (h__law_played : Fd P w K mg base boxB "_law_played" 1 1 F__law_played) (h_is_won : Fd P w K mg base boxB "is_won" 2 1 F_is_won) (h__law_same : Fd P w K mg base boxB "_law_same" 11 2 F__law_same) (h__law_piles : Fd P w K mg base boxB "_law_piles" 3 3 F__law_piles) (h__law_draw : Fd P w K mg base boxB "_law_draw" 2 2 F__law_draw) (h_clock_paper : Fd P w K mg base boxB "clock_paper" 2 1 F_clock_paper) (h_piles_from : Fd P w K mg base boxB "piles_from" 1 2 F_piles_from) (h__law_ways : Fd P w K mg base boxB "_law_ways" 11 1 F__law_ways) : FnOk P w K mg base CX0 12 f fd ["script"] (spLaw K) := by
  have GB : FnOk P w K mg base CX0 1 fB fdB ["script"] (spBox K) := ok_box FB fr
  have bB : Binds K fdB ["script"] [] := FB.bindsN fun _ _ _ _ _ _ us hl => match us, hl with | [_], _ => rfl
  refine F.ok sc_law (fun vs H Q E h => ?_) (fun cdv A outer s H vs Q E hr h => ⟨_, PSs.nox (pss_cons (ps_set (i := 1) sc_law.nd rfl (by first | exact Or.inl rfl | exact Or.inr rfl) (pe_call GB (hr.mono (by decide)) rfl gB FB.kp bB .nil pass0 (pa_cons (pv 0) pa_nil))) (bd_law F fr h__law_played h_is_won h__law_same h__law_piles h__law_draw h_clock_paper h_piles_from h__law_ways cdv A outer s H E hr)), ?_⟩)
  · obtain ⟨a, ns, rfl, _⟩ := h
    rfl
  · obtain ⟨a, ns, rfl, hS, h63, hQ⟩ := h
    refine ⟨_, rfl, a, ns, rfl, hS, h63, fun pb pc H' hb hc hBX sm => ?_⟩
    exact law_end (n := 22) rfl rfl hBX ⟨h63, Int.le_refl _, by show (0 : Int) ≤ 4711 + (ns.length : Int); omega, by show 4711 + (ns.length : Int) < 2147483647; omega⟩ (plain _ ⟨h63, Int.le_refl _, by show (0 : Int) ≤ 4711 + (ns.length : Int); omega, by show 4711 + (ns.length : Int) < 2147483647; omega⟩) hQ
end
def mkD (x : Str) (i : Nat) : He.DefD := ⟨(x, none), x, x, defArgs (top i), defBody (top i), defScope (top i), [], []⟩
def fn : List He.DefD := [mkD "clock_play" 1, mkD "is_won" 2, mkD "leads" 3, mkD "clock_paper" 4, mkD "ring_from" 5, mkD "piles_from" 6, mkD "_law_box" 8, mkD "_law_load" 9, mkD "_law_draw" 10, mkD "_law_same" 11, mkD "_law_piles" 12, mkD "_law_played" 13, mkD "_law_ways" 14, mkD "law" 15]
def fa : List He.Fa := [.glo "clock_play", .glo "is_won", .glo "leads", .glo "clock_paper", .glo "ring_from", .glo "piles_from", .glo "_law_box", .glo "_law_load", .glo "_law_draw", .glo "_law_same", .glo "_law_piles", .glo "_law_played", .glo "_law_ways", .glo "law", .free "len", .free "range", .free "tuple", .free "list", .free "sorted", .free "all", .free "any", .free "sum", .free "min", .free "max", .free "abs", .free "int", .free "str", .free "isinstance", .free "enumerate", .free "zip", .free "set", .free "dict", .free "reversed", .free "bool"]
abbrev RR' : PySem.W.OpenRow := PySem.W.OpenLaw.row PySem.Challenge.rw_cardstold_k67_whole_clocks_counted
abbrev hk : PySem.W.Hook := He.hookD 40 fa fn
def ob (s : PySem.W.SharedT) : He.AlD := He.obsDG 40 fa fn (HandSHeadRun.getT s)
theorem ob_eq (s : PySem.W.SharedT) : ob s = hk.obs s.abs := He.obsDG_eq (HandSHeadRun.getT_eq s)
theorem run (w : World) : HandSHeadRun.RunEq RR' (PySem.W.view RR'.prog [15]) hk ob 2000 ["clock_play", "is_won", "leads", "clock_paper", "ring_from", "piles_from", "_law_box", "_law_load", "_law_draw", "_law_same", "_law_piles", "_law_played", "_law_ways"] w := by
  intro os
  kernel_rfl
theorem facts {P : Program} {w : World} {K : PySem.W.Frag} {h : Heap} {mg : Str → Option Value} {f : Addr} (plain : ∀ b : Bw, b.Ok → ∃ fr s, f_law (lawS 22 b) = some (.rt (.d (.bool true)) fr s)) (X : K.In h) (G : h.Ns mainGlobals mg) (hfa : mg ("law" : Str) = some (.ref f)) (c : He.SaysD fa fn K) :
    ∃ fd : FuncData, (∀ (s : Shared) (v : Value), BindsTo s fd ⟨[v], []⟩ [("script", v)]) ∧ ∀ base : Heap, K.In base → base.Ns mainGlobals mg → FnOk P w K mg base CX0 12 f fd ["script"] (spLaw K) := by
  obtain ⟨fd_clock_play, F_Dclock_play⟩ := c.def_ 0 (d := mkD "clock_play" 1) rfl
  obtain ⟨fd_is_won, F_Dis_won⟩ := c.def_ 1 (d := mkD "is_won" 2) rfl
  obtain ⟨fd_leads, F_Dleads⟩ := c.def_ 2 (d := mkD "leads" 3) rfl
  obtain ⟨fd_clock_paper, F_Dclock_paper⟩ := c.def_ 3 (d := mkD "clock_paper" 4) rfl
  obtain ⟨fd_ring_from, F_Dring_from⟩ := c.def_ 4 (d := mkD "ring_from" 5) rfl
  obtain ⟨fd_piles_from, F_Dpiles_from⟩ := c.def_ 5 (d := mkD "piles_from" 6) rfl
  obtain ⟨fd__law_box, F_D_law_box⟩ := c.def_ 6 (d := mkD "_law_box" 8) rfl
  obtain ⟨fd__law_load, F_D_law_load⟩ := c.def_ 7 (d := mkD "_law_load" 9) rfl
  obtain ⟨fd__law_draw, F_D_law_draw⟩ := c.def_ 8 (d := mkD "_law_draw" 10) rfl
  obtain ⟨fd__law_same, F_D_law_same⟩ := c.def_ 9 (d := mkD "_law_same" 11) rfl
  obtain ⟨fd__law_piles, F_D_law_piles⟩ := c.def_ 10 (d := mkD "_law_piles" 12) rfl
  obtain ⟨fd__law_played, F_D_law_played⟩ := c.def_ 11 (d := mkD "_law_played" 13) rfl
  obtain ⟨fd__law_ways, F_D_law_ways⟩ := c.def_ 12 (d := mkD "_law_ways" 14) rfl
  obtain ⟨fd_law, F_Dlaw⟩ := c.def_ 13 (d := mkD "law" 15) rfl
  have e := hfa.symm.trans (He.glo_ok X G (c.fact 13 (f := .glo "law") rfl))
  cases e
  have b := FunD.bindsA (ps := ["script"]) F_Dlaw fun _ _ _ _ _ _ us hl => match us, hl with | [_], _ => rfl
  have fr : Free mg := ⟨He.free_ok X G (c.fact 14 (f := .free "len") rfl), He.free_ok X G (c.fact 15 (f := .free "range") rfl), He.free_ok X G (c.fact 16 (f := .free "tuple") rfl), He.free_ok X G (c.fact 17 (f := .free "list") rfl), He.free_ok X G (c.fact 18 (f := .free "sorted") rfl), He.free_ok X G (c.fact 19 (f := .free "all") rfl), He.free_ok X G (c.fact 20 (f := .free "any") rfl), He.free_ok X G (c.fact 21 (f := .free "sum") rfl), He.free_ok X G (c.fact 22 (f := .free "min") rfl), He.free_ok X G (c.fact 23 (f := .free "max") rfl), He.free_ok X G (c.fact 24 (f := .free "abs") rfl), He.free_ok X G (c.fact 25 (f := .free "int") rfl), He.free_ok X G (c.fact 26 (f := .free "str") rfl), He.free_ok X G (c.fact 27 (f := .free "isinstance") rfl), He.free_ok X G (c.fact 28 (f := .free "enumerate") rfl), He.free_ok X G (c.fact 29 (f := .free "zip") rfl), He.free_ok X G (c.fact 30 (f := .free "set") rfl), He.free_ok X G (c.fact 31 (f := .free "dict") rfl), He.free_ok X G (c.fact 32 (f := .free "reversed") rfl), He.free_ok X G (c.fact 33 (f := .free "bool") rfl)⟩
  have g_clock_play := He.glo_ok X G (c.fact 0 (f := .glo "clock_play") rfl)
  have g_is_won := He.glo_ok X G (c.fact 1 (f := .glo "is_won") rfl)
  have g_leads := He.glo_ok X G (c.fact 2 (f := .glo "leads") rfl)
  have g_clock_paper := He.glo_ok X G (c.fact 3 (f := .glo "clock_paper") rfl)
  have g_ring_from := He.glo_ok X G (c.fact 4 (f := .glo "ring_from") rfl)
  have g_piles_from := He.glo_ok X G (c.fact 5 (f := .glo "piles_from") rfl)
  have g__law_box := He.glo_ok X G (c.fact 6 (f := .glo "_law_box") rfl)
  have g__law_load := He.glo_ok X G (c.fact 7 (f := .glo "_law_load") rfl)
  have g__law_draw := He.glo_ok X G (c.fact 8 (f := .glo "_law_draw") rfl)
  have g__law_same := He.glo_ok X G (c.fact 9 (f := .glo "_law_same") rfl)
  have g__law_piles := He.glo_ok X G (c.fact 10 (f := .glo "_law_piles") rfl)
  have g__law_played := He.glo_ok X G (c.fact 11 (f := .glo "_law_played") rfl)
  have g__law_ways := He.glo_ok X G (c.fact 12 (f := .glo "_law_ways") rfl)
  refine ⟨fd_law, fun s v => b s [v] rfl, fun base _ _ => ?_⟩
  have h__law_draw := ok__law_draw (P := P) (w := w) (base := base) F_D_law_draw g__law_draw F_D_law_load g__law_load fr
  have h_clock_play := ok_clock_play (P := P) (w := w) (base := base) F_Dclock_play g_clock_play fr
  have h_is_won := ok_is_won (P := P) (w := w) (base := base) F_Dis_won g_is_won fr h_clock_play
  have h_leads := ok_leads (P := P) (w := w) (base := base) F_Dleads g_leads fr
  have h_ring_from := ok_ring_from (P := P) (w := w) (base := base) F_Dring_from g_ring_from fr
  have h_clock_paper := ok_clock_paper (P := P) (w := w) (base := base) F_Dclock_paper g_clock_paper fr h_ring_from h_leads
  have h_piles_from := ok_piles_from (P := P) (w := w) (base := base) F_Dpiles_from g_piles_from fr
  have h__law_same := ok__law_same (P := P) (w := w) (base := base) F_D_law_same g__law_same fr
  have h__law_piles := ok__law_piles (P := P) (w := w) (base := base) F_D_law_piles g__law_piles fr h__law_draw
  have h__law_played := ok__law_played (P := P) (w := w) (base := base) F_D_law_played g__law_played fr
  have h__law_ways := ok__law_ways (P := P) (w := w) (base := base) F_D_law_ways g__law_ways fr
  exact ok_law plain F_Dlaw F_D_law_box g__law_box fr h__law_played h_is_won h__law_same h__law_piles h__law_draw h_clock_paper h_piles_from h__law_ways
end Law

set_option maxRecDepth 100000
set_option maxHeartbeats 0
open PySem PySem.W PySem.Calls PyProof.Rows
theorem PySem.Challenge.cw_cardstold_k67_whole_clocks_counted_holds : PySem.Challenge.rw_cardstold_k67_whole_clocks_counted.Holds := by
  w_on; o_law
  refine HandSHeadRun.head_any (r := OpenLaw.row PySem.Challenge.rw_cardstold_k67_whole_clocks_counted) (q := view (OpenLaw.row PySem.Challenge.rw_cardstold_k67_whole_clocks_counted).prog [15]) (H := Law.hk) (ob := Law.ob) (M := 2000) (loose := ["clock_play", "is_won", "leads", "clock_paper", "ring_from", "piles_from", "_law_box", "_law_load", "_law_draw", "_law_same", "_law_piles", "_law_played", "_law_ways"]) (d := HandSHeadRun.topDef (OpenLaw.row PySem.Challenge.rw_cardstold_k67_whole_clocks_counted).prog 15) (kwd := []) Law.ob_eq
    (by kernel_rfl) (fun s => by kernel_rfl) Law.run (by kernel_rfl) (by kernel_rfl) (by kernel_rfl) (by rfl) (by first | assumption | decide +kernel) (by decide +kernel) ⟨rfl, rfl, rfl, rfl, rfl, by decide +kernel⟩ ?hw ?hc
  case hw => w_witness2
  case hc =>
    refine L2.walk_ofE (l := PySem.Challenge.rw_cardstold_k67_whole_clocks_counted) (n := 63) (k := 12) (x := "script") (CX := L2.CX0) rfl (by decide) (by kernel_rfl) ⟨rfl, by decide, by decide⟩ ?F (fun _ _ _ _ z => z)
    intro w mg fa h Y G hmg0
    obtain ⟨K, KX, c⟩ := Y
    have hmg : mg ("law" : PySem.Str) = some (.ref fa) := by
      have e : (HandSHeadRun.topDef (OpenLaw.row PySem.Challenge.rw_cardstold_k67_whole_clocks_counted).prog 15).name = ("law" : PySem.Str) := by kernel_rfl
      rw [← e]
      exact hmg0
    obtain ⟨fd, hb, hF⟩ := Law.facts (P := (PySem.Challenge.rw_cardstold_k67_whole_clocks_counted).prog) (w := w) Law.plain KX G hmg c
    exact ⟨K, fd, Vv.spLaw K, KX, hb, fun H a ns hl _ hS => ⟨a, ns, rfl, hS, hl, fun _ => rfl⟩, hF⟩
