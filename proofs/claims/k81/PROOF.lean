import PyProof.Rows.All
import Wide.All
import OpenK.AllK
import Wide.FinOn
import HandS.ForMost
import HandS.Lambda
import HandS.Wide
import HandS.TupAny
import HandS.TupMul
import HandS.Deep
import HandS.IsInst
import HandS.Gcd
import HandS.SetFor
import HandS.Zip
import HandS.NoneIn
import KE.GoesEnum
import HandS.DictComp
import HandS.Words
import HandS.Defaults
import HandS.ForExc
import KE.KExcMake
import KE.KExcInit
import HandS.Base
import HandS.Call
import HandS.Exc
import KE.KExcStr
import KE.KExcIs
import HandS.ExcInit
import HandS.TryMany
import HandS.ExcField
import HandS.Codes
import HandS.CallLocal
import PyProof.StrLawsRepr
import HandS.Conv
import HandS.EndTab
import HandS.MakeKw
import PySem.Challenge.RW_allslopes_k81_whole_lives_and_boxes
set_option Elab.async false
set_option linter.all false
set_option maxRecDepth 100000
set_option maxHeartbeats 4000000
-- DL1
set_option autoImplicit true
namespace DL
open PySem PySem.Spec PyProof.Rows L2
/-! ### data, slots, the relation to a heap -/
abbrev D := PyData
/-- the dict of the law's draws -/
def dSt (l c t : Int) : HO := .dK [(.inr "left", .int l), (.inr "cell", .int c), (.inr "turns", .int t)]
/-- what a def owns: a list of data, a list of lists of data, a dict, the draws (made at most n) -/
inductive Ow where
  | l (ds : List D) | ll (dss : List (List D)) | dk (kvs : List (Key × D)) | st (n : Nat)
/-- a slot: unassigned (or forgotten), data, a raw value, a tuple of raw values, owned, borrowed -/
inductive Sl where
  | un | da (d : D) | va (v : V) | vs (xs : List V) | ow (o : Ow) | bo (o : Ow)
abbrev Rho := List Sl
/-- K: the written part; F: the heap at the entry; B: what may be changed of it; G: the data of it -/
structure DC where
  K : PySem.W.Frag
  F : Hp
  B : List Addr
  G : Hp
  T : List (Addr × Str)
/-- no table of code objects -/
def nT : HO → Bool
  | .tbl _ => false
  | _ => true
/-- an object that may be changed -/
def plO : HO → Bool
  | .lst _ => true
  | .dK _ => true
  | _ => false
theorem nT_pl {o : HO} (h : plO o = true) : nT o = true := by cases o <;> first | rfl | cases h
def Sub (H H' : Hp) : Prop := ∀ a o, nT o = true → H a = some o → H' a = some o
/-- nothing, but maybe a table -/
def NN (H : Hp) (a : Addr) : Prop := ∀ o, nT o = true → H a = some o → False
theorem NN.of {H : Hp} {a : Addr} (h : H a = none) : NN H a := fun o _ e => by rw [h] at e; cases e
theorem ne_of_nn {H : Hp} {a p : Addr} {o : HO} (e : H a = some o) (t : nT o = true) (n : NN H p) : a ≠ p := fun z => n o t (z ▸ e)
theorem Sub.refl (H : Hp) : Sub H H := fun _ _ _ h => h
theorem Sub.trans {H H1 H2 : Hp} (a : Sub H H1) (b : Sub H1 H2) : Sub H H2 := fun c o t h => b c o t (a c o t h)
theorem Sub.nn {H H' : Hp} (e : Sub H H') {l : Addr} (h : NN H' l) : NN H l := fun o t q => h o t (e l o t q)
theorem sub_updN {H : Hp} {p : Addr} {o : HO} (h : NN H p) : Sub H (upd H p o) := fun b x t e => by
  rw [upd_ne (ne_of_nn e t h)]; exact e
theorem sub_upd {H : Hp} {p : Addr} {o : HO} (h : H p = none) : Sub H (upd H p o) := sub_updN (.of h)
theorem Sub.upd2 {H H' : Hp} (s : Sub H H') {p : Addr} {o : HO} : Sub (upd H p o) (upd H' p o) := fun b x t e => by
  by_cases hb : b = p
  · subst hb; rw [upd_same] at e ⊢; exact e
  · rw [upd_ne hb] at e ⊢; exact s b x t e
/-- tables stay tables -/
theorem tabs_upd {T : List (Addr × Str)} {H H' : Hp} (h : LamX.Tabs T H) (k : ∀ a, H' a = H a ∨ (∀ o, H a = some o → plO o = true)) : LamX.Tabs T H' := fun p hp => by
  obtain ⟨ps, h1, h2, h3⟩ := h p hp
  have st : ∀ {a : Addr} {o : HO}, H a = some o → plO o = false → H' a = some o := fun {a o} e n => by
    rcases k a with q | q
    · rw [q]; exact e
    · rw [q o e] at n; cases n
  refine ⟨ps, st h1 rfl, h2, fun pos cv hc => ?_⟩
  obtain ⟨c, e1, e2⟩ := h3 pos cv hc
  exact ⟨c, e1, st e2 (by unfold LamX.CodeO; rfl)⟩
mutual
/-- as Dp, a list is one that was made -/
inductive Dq (K : PySem.W.Frag) (H : Hp) : V → PyData → Prop
  | non : Dq K H .non .none
  | bl (b : Bool) : Dq K H (.bl b) (.bool b)
  | int (i : Int) : Dq K H (.int i) (.int i)
  | str (x : Str) : Dq K H (.str x) (.str x)
  | lst {a : Addr} {xs : List V} {ds : List PyData} : Rd H a (.lst xs) → DqAll K H xs ds → Dq K H (.ref a) (.list ds)
  | tup {a : Addr} {xs : List V} {ds : List PyData} : SqT K H a xs → DqAll K H xs ds → Dq K H (.ref a) (.tuple ds)
inductive DqAll (K : PySem.W.Frag) (H : Hp) : List V → List PyData → Prop
  | nil : DqAll K H [] []
  | cons {v : V} {vs : List V} {d : PyData} {ds : List PyData} : Dq K H v d → DqAll K H vs ds → DqAll K H (v :: vs) (d :: ds)
end
section
variable {K : PySem.W.Frag} {H H' : Hp}
mutual
theorem Dq.dp : ∀ (d : D) (v : V), Dq K H v d → Dp K H v d
  | .none, _, h => by cases h; exact .non
  | .bool b, _, h => by cases h; exact .bl b
  | .int i, _, h => by cases h; exact .int i
  | .str x, _, h => by cases h; exact .str x
  | .list ds, _, h => by
    cases h with
    | lst hs ha => exact .lst (.inl hs) (DqAll.dp ds _ ha)
  | .tuple ds, _, h => by
    cases h with
    | tup hs ha => exact .tup hs (DqAll.dp ds _ ha)
  | .dict _, _, h => by cases h
theorem DqAll.dp : ∀ (ds : List D) (vs : List V), DqAll K H vs ds → DpAll K H vs ds
  | [], _, h => by cases h; exact .nil
  | d :: ds, _, h => by
    cases h with
    | cons h1 h2 => exact .cons (Dq.dp d _ h1) (DqAll.dp ds _ h2)
end
theorem Sub.rd (e : Sub H H') {a : Addr} {o : HO} (h : Rd H a o) (n : nT o = true := by rfl) : Rd H' a o := by
  rcases h with h | ⟨ob, h⟩
  · exact .inl (e _ _ n h)
  · exact .inr ⟨ob, e _ _ rfl h⟩
theorem Sub.seqL (e : Sub H H') {a : Addr} {xs : List V} (h : SqL K H a xs) : SqL K H' a xs := by
  rcases h with h | h
  · exact .inl (e.rd h)
  · exact .inr h
theorem Sub.seqT (e : Sub H H') {a : Addr} {xs : List V} (h : SqT K H a xs) : SqT K H' a xs := by
  rcases h with (h | ⟨o, h⟩) | h
  · exact .inl (.inl (e _ _ rfl h))
  · exact .inl (.inr ⟨o, e _ _ rfl h⟩)
  · exact .inr h
mutual
theorem Dq.mono (e : Sub H H') : ∀ (d : D) (v : V), Dq K H v d → Dq K H' v d
  | .none, _, h => by cases h; exact .non
  | .bool b, _, h => by cases h; exact .bl b
  | .int i, _, h => by cases h; exact .int i
  | .str x, _, h => by cases h; exact .str x
  | .list ds, _, h => by
    cases h with
    | lst hs ha => exact .lst (e.rd hs) (DqAll.mono e ds _ ha)
  | .tuple ds, _, h => by
    cases h with
    | tup hs ha => exact .tup (e.seqT hs) (DqAll.mono e ds _ ha)
  | .dict _, _, h => by cases h
theorem DqAll.mono (e : Sub H H') : ∀ (ds : List D) (vs : List V), DqAll K H vs ds → DqAll K H' vs ds
  | [], _, h => by cases h; exact .nil
  | d :: ds, _, h => by
    cases h with
    | cons h1 h2 => exact .cons (Dq.mono e d _ h1) (DqAll.mono e ds _ h2)
end
theorem DqAll.length : ∀ {vs : List V} {ds : List D}, DqAll K H vs ds → vs.length = ds.length
  | _, _, .nil => rfl
  | _, _, .cons _ t => by simp [DqAll.length t]
theorem DqAll.get : ∀ {vs : List V} {ds : List D} {i : Nat} {d : D}, DqAll K H vs ds → ds[i]? = some d → ∃ v, vs[i]? = some v ∧ Dq K H v d
  | _, _, _, _, .nil, e => by simp at e
  | _, _, 0, _, .cons h _, e => by simp at e; subst e; exact ⟨_, rfl, h⟩
  | _, _, i + 1, d, .cons _ t, e => by
    obtain ⟨v, h1, h2⟩ := DqAll.get (i := i) (d := d) t (by simpa using e)
    exact ⟨v, by simpa using h1, h2⟩
theorem DqAll.getV : ∀ {vs : List V} {ds : List D} {i : Nat} {v : V}, DqAll K H vs ds → vs[i]? = some v → ∃ d, ds[i]? = some d ∧ Dq K H v d
  | _, _, _, _, .nil, e => by simp at e
  | _, _, 0, _, .cons h _, e => by simp at e; subst e; exact ⟨_, rfl, h⟩
  | _, _, i + 1, d, .cons _ t, e => by
    obtain ⟨v, h1, h2⟩ := DqAll.getV (i := i) (v := d) t (by simpa using e)
    exact ⟨v, by simpa using h1, h2⟩
theorem DqAll.append : ∀ {vs ws : List V} {ds es : List D}, DqAll K H vs ds → DqAll K H ws es → DqAll K H (vs ++ ws) (ds ++ es)
  | _, _, _, _, .nil, s => s
  | _, _, _, _, .cons r t, s => .cons r (DqAll.append t s)
theorem DqAll.take : ∀ (n : Nat) {vs : List V} {ds : List D}, DqAll K H vs ds → DqAll K H (vs.take n) (ds.take n)
  | 0, _, _, _ => by simp; exact .nil
  | _ + 1, _, _, .nil => by simp; exact .nil
  | n + 1, _, _, .cons r t => by simp; exact .cons r (DqAll.take n t)
theorem DqAll.drop : ∀ (n : Nat) {vs : List V} {ds : List D}, DqAll K H vs ds → DqAll K H (vs.drop n) (ds.drop n)
  | 0, _, _, h => by simpa using h
  | _ + 1, _, _, .nil => by simp; exact .nil
  | n + 1, _, _, .cons r t => by simpa using DqAll.drop n t
theorem DqAll.set {v : V} {d : D} (r : Dq K H v d) : ∀ (n : Nat) {vs : List V} {ds : List D}, DqAll K H vs ds → DqAll K H (vs.set n v) (ds.set n d)
  | _, _, _, .nil => by simp; exact .nil
  | 0, _, _, .cons _ t => .cons r t
  | n + 1, _, _, .cons q t => .cons q (DqAll.set r n t)
theorem DqAll.ints (is : List Int) : DqAll K H (is.map V.int) (is.map PyData.int) := by
  induction is with
  | nil => exact .nil
  | cons i is ih => exact .cons (.int i) ih
end

/-- lists at addresses -/
def OwnL (K : PySem.W.Frag) (Hd H : Hp) : List Addr → List (List D) → Prop
  | [], [] => True
  | a :: as, ds :: dss => (∃ vs, H a = some (.lst vs) ∧ DqAll K Hd vs ds) ∧ OwnL K Hd H as dss
  | _, _ => False
/-- a dict's pairs -/
def KD (K : PySem.W.Frag) (Hd : Hp) : List (Key × V) → List (Key × D) → Prop
  | [], [] => True
  | p :: ps, q :: qs => (p.1 = q.1 ∧ Dq K Hd p.2 q.2) ∧ KD K Hd ps qs
  | _, _ => False
def Own (K : PySem.W.Frag) (Hd H : Hp) (v : V) (o : Ow) (fp : List Addr) : Prop :=
  match o with
  | .l ds => ∃ a vs, v = .ref a ∧ fp = [a] ∧ H a = some (.lst vs) ∧ DqAll K Hd vs ds
  | .ll dss => ∃ a as, v = .ref a ∧ fp = a :: as ∧ H a = some (.lst (as.map V.ref)) ∧ OwnL K Hd H as dss
  | .dk kvs => ∃ a kvv, v = .ref a ∧ fp = [a] ∧ H a = some (.dK kvv) ∧ KD K Hd kvv kvs
  | .st n => ∃ a l c t, v = .ref a ∧ fp = [a] ∧ H a = some (dSt l c t) ∧ 0 ≤ t ∧ t ≤ (n : Int)
/-- what it is as data, once it is no more changed -/
def Ow.fr : Ow → Option D
  | .l ds => some (.list ds)
  | .ll dss => some (.list (dss.map .list))
  | _ => none
def SlR (C : DC) (Hd H : Hp) (x : Option V) (s : Sl) (fp : List Addr) : Prop :=
  match s with
  | .un => fp = []
  | .da d => fp = [] ∧ ∃ v, x = some v ∧ Dq C.K Hd v d
  | .va v => fp = [] ∧ x = some v
  | .vs xs => fp = [] ∧ ∃ a, x = some (.ref a) ∧ SqT C.K Hd a xs
  | .ow o => (∃ v, x = some v ∧ Own C.K Hd H v o fp) ∧ ∀ a ∈ fp, NN C.F a
  | .bo o => (∃ v, x = some v ∧ Own C.K Hd H v o fp) ∧ ∀ a ∈ fp, a ∈ C.B
def Ls (C : DC) (Hd H : Hp) : List (Option V) → List Sl → List Addr → Prop
  | [], [], fp => fp = []
  | x :: xs, s :: ss, fp => ∃ f g, fp = f ++ g ∧ SlR C Hd H x s f ∧ Ls C Hd H xs ss g
  | _, _, _ => False

section
variable {K : PySem.W.Frag} {C : DC} {Hd Hd' H H' : Hp}
theorem OwnL.mono (s : Sub Hd Hd') : ∀ {as : List Addr} {dss : List (List D)}, (∀ a ∈ as, H' a = H a) → OwnL K Hd H as dss → OwnL K Hd' H' as dss
  | [], [], _, _ => trivial
  | a :: as, ds :: dss, k, ⟨⟨vs, h1, h2⟩, t⟩ => ⟨⟨vs, by rw [k a (by simp)]; exact h1, DqAll.mono s _ _ h2⟩, OwnL.mono s (fun b hb => k b (by simp [hb])) t⟩
  | [], _ :: _, _, h => h.elim
  | _ :: _, [], _, h => h.elim
theorem OwnL.length : ∀ {as : List Addr} {dss : List (List D)}, OwnL K Hd H as dss → as.length = dss.length
  | [], [], _ => rfl
  | a :: as, ds :: dss, ⟨_, t⟩ => by simp [OwnL.length t]
  | [], _ :: _, h => h.elim
  | _ :: _, [], h => h.elim
theorem OwnL.get : ∀ {as : List Addr} {dss : List (List D)} {i : Nat} {ds : List D}, OwnL K Hd H as dss → dss[i]? = some ds → ∃ a vs, as[i]? = some a ∧ H a = some (.lst vs) ∧ DqAll K Hd vs ds
  | [], [], _, _, _, e => by simp at e
  | a :: as, ds :: dss, 0, _, ⟨⟨vs, h1, h2⟩, _⟩, e => by simp at e; subst e; exact ⟨a, vs, rfl, h1, h2⟩
  | a :: as, ds :: dss, i + 1, _, ⟨_, t⟩, e => by
    obtain ⟨b, vs, q1, q2, q3⟩ := OwnL.get (i := i) t (by simpa using e)
    exact ⟨b, vs, by simpa using q1, q2, q3⟩
  | [], _ :: _, _, _, h, _ => h.elim
  | _ :: _, [], _, _, h, _ => h.elim
theorem KD.mono (s : Sub Hd Hd') : ∀ {ps : List (Key × V)} {qs : List (Key × D)}, KD K Hd ps qs → KD K Hd' ps qs
  | [], [], _ => trivial
  | p :: ps, q :: qs, ⟨h, t⟩ => ⟨⟨h.1, Dq.mono s _ _ h.2⟩, KD.mono s t⟩
  | [], _ :: _, h => h.elim
  | _ :: _, [], h => h.elim
theorem Own.mono {v : V} {o : Ow} {fp : List Addr} (s : Sub Hd Hd') (k : ∀ a ∈ fp, H' a = H a) (h : Own K Hd H v o fp) : Own K Hd' H' v o fp := by
  cases o with
  | l ds => obtain ⟨a, vs, rfl, rfl, h1, h2⟩ := h; exact ⟨a, vs, rfl, rfl, by rw [k a (by simp)]; exact h1, DqAll.mono s _ _ h2⟩
  | ll dss => obtain ⟨a, as, rfl, rfl, h1, h2⟩ := h; exact ⟨a, as, rfl, rfl, by rw [k a (by simp)]; exact h1, h2.mono s fun b hb => k b (by simp [hb])⟩
  | dk kvs => obtain ⟨a, kvv, rfl, rfl, h1, h2⟩ := h; exact ⟨a, kvv, rfl, rfl, by rw [k a (by simp)]; exact h1, h2.mono s⟩
  | st n => obtain ⟨a, l, c, t, rfl, rfl, h1, h2⟩ := h; exact ⟨a, l, c, t, rfl, rfl, by rw [k a (by simp)]; exact h1, h2⟩
theorem SlR.mono {x : Option V} {o : Sl} {fp : List Addr} (s : Sub Hd Hd') (k : ∀ a ∈ fp, H' a = H a) (h : SlR C Hd H x o fp) : SlR C Hd' H' x o fp := by
  cases o with
  | un => exact h
  | da d => obtain ⟨h0, v, h1, h2⟩ := h; exact ⟨h0, v, h1, Dq.mono s _ _ h2⟩
  | va v => exact h
  | vs xs => obtain ⟨h0, a, h1, h2⟩ := h; exact ⟨h0, a, h1, s.seqT h2⟩
  | ow o => obtain ⟨⟨v, h1, h2⟩, h3⟩ := h; exact ⟨⟨v, h1, h2.mono s k⟩, h3⟩
  | bo o => obtain ⟨⟨v, h1, h2⟩, h3⟩ := h; exact ⟨⟨v, h1, h2.mono s k⟩, h3⟩
theorem Ls.mono (s : Sub Hd Hd') : ∀ {xs : List (Option V)} {ss : List Sl} {fp : List Addr}, (∀ a ∈ fp, H' a = H a) → Ls C Hd H xs ss fp → Ls C Hd' H' xs ss fp
  | [], [], _, _, h => h
  | x :: xs, o :: ss, _, k, ⟨f, g, e, h1, h2⟩ => by
    subst e
    exact ⟨f, g, rfl, h1.mono s fun a ha => k a (by simp [ha]), h2.mono s fun a ha => k a (by simp [ha])⟩
  | [], _ :: _, _, _, h => h.elim
  | _ :: _, [], _, _, h => h.elim
theorem Ls.length : ∀ {xs : List (Option V)} {ss : List Sl} {fp : List Addr}, Ls C Hd H xs ss fp → xs.length = ss.length
  | [], [], _, _ => rfl
  | x :: xs, o :: ss, _, ⟨f, g, e, h1, h2⟩ => by simp [Ls.length h2]
  | [], _ :: _, _, h => h.elim
  | _ :: _, [], _, h => h.elim
theorem Ls.append : ∀ {xs ys : List (Option V)} {ss rs : List Sl} {f g : List Addr}, Ls C Hd H xs ss f → Ls C Hd H ys rs g → Ls C Hd H (xs ++ ys) (ss ++ rs) (f ++ g)
  | [], _, [], _, _, _, h, h' => by
    have e : _ = [] := h
    subst e; exact h'
  | x :: xs, _, o :: ss, _, _, _, ⟨f, g, e, h1, h2⟩, h' => by
    subst e
    exact ⟨f, _, by rw [List.append_assoc], h1, h2.append h'⟩
  | [], _, _ :: _, _, _, _, h, _ => h.elim
  | _ :: _, _, [], _, _, _, h, _ => h.elim
theorem Ls.split : ∀ {xs ys : List (Option V)} {ss rs : List Sl} {fp : List Addr}, xs.length = ss.length → Ls C Hd H (xs ++ ys) (ss ++ rs) fp → ∃ f g, fp = f ++ g ∧ Ls C Hd H xs ss f ∧ Ls C Hd H ys rs g
  | [], _, [], _, fp, _, h => ⟨[], fp, rfl, rfl, h⟩
  | x :: xs, _, o :: ss, _, _, l, ⟨f, g, e, h1, h2⟩ => by
    obtain ⟨f2, g2, e2, q1, q2⟩ := Ls.split (xs := xs) (ss := ss) (by simpa using l) h2
    subst e e2
    exact ⟨f ++ f2, g2, by rw [List.append_assoc], ⟨f, f2, rfl, h1, q1⟩, q2⟩
  | [], _, _ :: _, _, _, l, _ => by simp at l
  | _ :: _, _, [], _, _, l, _ => by simp at l
/-- the i-th slot taken out: what it is, and how another is put in its place -/
theorem Ls.at : ∀ {xs : List (Option V)} {ss : List Sl} {fp : List Addr} {i : Nat} {s : Sl}, Ls C Hd H xs ss fp → ss[i]? = some s →
    ∃ x f g1 g2, fp = g1 ++ f ++ g2 ∧ xs[i]? = some x ∧ SlR C Hd H x s f ∧
      ∀ {Hd' H' : Hp} (y : Option V) (r : Sl) (f' : List Addr), Sub Hd Hd' → (∀ a ∈ g1 ++ g2, H' a = H a) → SlR C Hd' H' y r f' → Ls C Hd' H' (xs.set i y) (ss.set i r) (g1 ++ f' ++ g2)
  | [], [], _, _, _, _, e => by simp at e
  | x :: xs, o :: ss, _, 0, s, ⟨f, g, e, h1, h2⟩, e' => by
    simp at e'
    subst e e'
    refine ⟨x, f, [], g, by simp, rfl, h1, fun y r f' sb k hy => ?_⟩
    exact ⟨f', g, by simp, hy, h2.mono sb fun a ha => k a (by simpa using ha)⟩
  | x :: xs, o :: ss, _, i + 1, s, ⟨f, g, e, h1, h2⟩, e' => by
    obtain ⟨z, f2, g1, g2, q1, q2, q3, q4⟩ := Ls.at (i := i) h2 (by simpa using e')
    subst e q1
    refine ⟨z, f2, f ++ g1, g2, by simp, by simpa using q2, q3, fun y r f' sb k hy => ?_⟩
    refine ⟨f, g1 ++ f' ++ g2, by simp, h1.mono sb fun a ha => k a (by simp [ha]), ?_⟩
    exact q4 y r f' sb (fun a ha => k a (by simp only [List.mem_append] at ha ⊢; rcases ha with ha | ha <;> simp [ha])) hy
  | [], _ :: _, _, _, _, h, _ => h.elim
  | _ :: _, [], _, _, _, h, _ => h.elim
end

/-! ### the state -/
/-- σ the slots' values, ρ what they are; vs, ss: values that wait, and what they are -/
structure En (C : DC) (Hd H : Hp) (σ : L2.St) (ρ : Rho) (vs : List V) (ss : List Sl) : Prop where
  keep : ∀ a o, nT o = true → a ∉ C.B → C.F a = some o → H a = some o
  there : ∀ a o, nT o = true → C.F a = some o → ∃ o', nT o' = true ∧ H a = some o'
  ext : Sub C.G Hd
  new : ∀ a o, nT o = true → C.F a = some o → Hd a = C.G a
  sub : Sub Hd H
  tabs : LamX.Tabs C.T H
  sep : ∃ f g, Ls C Hd H (vs.map some) ss f ∧ Ls C Hd H σ ρ g ∧ (∀ a, (f ++ g).count a ≤ 1) ∧ ∀ a ∈ f ++ g, NN Hd a
section
variable {C : DC} {Hd Hd' H H' : Hp} {σ : L2.St} {ρ : Rho} {vs ws : List V} {ss rs : List Sl} {v : V} {s : Sl}
theorem cnt_mem {l : List Addr} {a : Addr} (h : a ∈ l) : 1 ≤ l.count a := List.count_pos_iff.mpr h
theorem cnt_mem' {l : List Addr} {a : Addr} (h : 0 < l.count a) : a ∈ l := List.count_pos_iff.mp h
/-- a value that waits is dropped -/
theorem En.drop (E : En C Hd H σ ρ (v :: vs) (s :: ss)) : En C Hd H σ ρ vs ss := by
  obtain ⟨_, g, ⟨f1, f2, rfl, h1, h2⟩, h3, h4, h5⟩ := E.sep
  refine ⟨E.keep, E.there, E.ext, E.new, E.sub, E.tabs, f2, g, h2, h3, fun a => ?_, fun a ha => h5 a ?_⟩
  · have := h4 a; simp only [List.count_append] at this ⊢; omega
  · simp only [List.mem_append] at ha ⊢; rcases ha with ha | ha <;> simp [ha]
/-- it becomes a slot's -/
theorem En.put {i : Nat} (E : En C Hd H σ ρ (v :: vs) (s :: ss)) (hi : i < ρ.length) : En C Hd H (σ.set i (some v)) (ρ.set i s) vs ss := by
  obtain ⟨_, g, ⟨f1, f2, rfl, h1, h2⟩, h3, h4, h5⟩ := E.sep
  obtain ⟨x, f, g1, g2, e, q1, q2, q3⟩ := h3.at (i := i) (s := ρ[i]) (by simp [hi])
  subst e
  refine ⟨E.keep, E.there, E.ext, E.new, E.sub, E.tabs, f2, _, h2, q3 (some v) s f1 (Sub.refl _) (fun _ _ => rfl) h1, fun a => ?_, fun a ha => h5 a ?_⟩
  · have := h4 a; simp only [List.count_append] at this ⊢; omega
  · simp only [List.mem_append] at ha ⊢; rcases ha with ha | (ha | ha) | ha <;> simp [ha]
/-- in another order: the one on top is laid below others -/
theorem En.under (E : En C Hd H σ ρ (ws ++ v :: vs) (rs ++ s :: ss)) (l : ws.length = rs.length) : En C Hd H σ ρ (v :: ws ++ vs) (s :: rs ++ ss) := by
  obtain ⟨f, g, h2, h3, h4, h5⟩ := E.sep
  rw [List.map_append] at h2
  obtain ⟨f1, f2, rfl, q1, q2⟩ := h2.split (by simpa using l)
  obtain ⟨f3, f4, rfl, q3, q4⟩ := q2
  refine ⟨E.keep, E.there, E.ext, E.new, E.sub, E.tabs, f3 ++ (f1 ++ f4), g, ?_, h3, fun a => ?_, fun a ha => h5 a ?_⟩
  · exact ⟨f3, _, rfl, q3, by show Ls C Hd H ((ws ++ vs).map some) (rs ++ ss) _; rw [List.map_append]; exact q1.append q4⟩
  · have := h4 a; simp only [List.count_append] at this ⊢; omega
  · simp only [List.mem_append] at ha ⊢; rcases ha with (ha | ha | ha) | ha <;> simp [ha]
theorem En.len (E : En C Hd H σ ρ vs ss) : σ.length = ρ.length := let ⟨_, _, _, h, _⟩ := E.sep; h.length
theorem En.plen (E : En C Hd H σ ρ vs ss) : vs.length = ss.length := by obtain ⟨_, _, h, _⟩ := E.sep; simpa using h.length
/-- data that waits -/
theorem En.top {d : D} (E : En C Hd H σ ρ (v :: vs) (.da d :: ss)) : Dq C.K Hd v d := by
  obtain ⟨_, g, ⟨f1, f2, rfl, ⟨_, w, e, h1⟩, h2⟩, _⟩ := E.sep
  cases e
  exact h1
theorem En.topV {w : V} (E : En C Hd H σ ρ (v :: vs) (.va w :: ss)) : v = w := by
  obtain ⟨_, g, ⟨f1, f2, rfl, ⟨_, e⟩, h2⟩, _⟩ := E.sep
  cases e
  rfl
/-- new data waits -/
theorem En.push {d : D} (E : En C Hd H σ ρ vs ss) (h : Dq C.K Hd v d) : En C Hd H σ ρ (v :: vs) (.da d :: ss) := by
  obtain ⟨f, g, h2, h3, h4, h5⟩ := E.sep
  exact ⟨E.keep, E.there, E.ext, E.new, E.sub, E.tabs, f, g, ⟨[], f, rfl, ⟨rfl, v, rfl, h⟩, h2⟩, h3, h4, h5⟩
theorem En.pushV (E : En C Hd H σ ρ vs ss) : En C Hd H σ ρ (v :: vs) (.va v :: ss) := by
  obtain ⟨f, g, h2, h3, h4, h5⟩ := E.sep
  exact ⟨E.keep, E.there, E.ext, E.new, E.sub, E.tabs, f, g, ⟨[], f, rfl, ⟨rfl, rfl⟩, h2⟩, h3, h4, h5⟩
theorem OwnL.has : ∀ {as : List Addr} {dss : List (List D)}, OwnL C.K Hd H as dss → ∀ a ∈ as, ∃ o, plO o = true ∧ H a = some o
  | [], _, _, a, z => by simp at z
  | b :: as, ds :: dss, ⟨⟨vs, h1, _⟩, t⟩, a, z => by
    rcases List.mem_cons.mp z with rfl | z
    · exact ⟨_, rfl, h1⟩
    · exact OwnL.has t a z
  | _ :: _, [], h, _, _ => h.elim
theorem Own.has {o : Ow} {f : List Addr} (h : Own C.K Hd H v o f) : ∀ a ∈ f, ∃ o, plO o = true ∧ H a = some o := by
  intro a ha
  cases o with
  | l ds => obtain ⟨b, vs, rfl, rfl, h1, h2⟩ := h; simp at ha; subst ha; exact ⟨_, rfl, h1⟩
  | ll dss =>
    obtain ⟨b, as, rfl, rfl, h1, h2⟩ := h
    rcases List.mem_cons.mp ha with rfl | ha
    · exact ⟨_, rfl, h1⟩
    · exact h2.has a ha
  | dk kvs => obtain ⟨b, kvv, rfl, rfl, h1, h2⟩ := h; simp at ha; subst ha; exact ⟨_, rfl, h1⟩
  | st n => obtain ⟨b, l, c, t, rfl, rfl, h1, h2⟩ := h; simp at ha; subst ha; exact ⟨_, rfl, h1⟩
theorem SlR.has {x : Option V} {f : List Addr} (h : SlR C Hd H x s f) : ∀ a ∈ f, ∃ o, plO o = true ∧ H a = some o := by
  intro a ha
  cases s with
  | un => have e : f = [] := h; subst e; simp at ha
  | da d => obtain ⟨rfl, _⟩ := h; simp at ha
  | va v => obtain ⟨rfl, _⟩ := h; simp at ha
  | vs xs => obtain ⟨rfl, _⟩ := h; simp at ha
  | ow o => obtain ⟨⟨v, _, h⟩, _⟩ := h; exact h.has a ha
  | bo o => obtain ⟨⟨v, _, h⟩, _⟩ := h; exact h.has a ha
theorem Ls.has : ∀ {xs : List (Option V)} {ss : List Sl} {f : List Addr}, Ls C Hd H xs ss f → ∀ a ∈ f, ∃ o, plO o = true ∧ H a = some o
  | [], [], _, h, a, ha => by have e : _ = [] := h; subst e; simp at ha
  | x :: xs, s :: ss, _, ⟨f1, f2, e, h1, h2⟩, a, ha => by
    subst e
    rcases List.mem_append.mp ha with ha | ha
    · exact h1.has a ha
    · exact Ls.has h2 a ha
  | [], _ :: _, _, h, _, _ => h.elim
  | _ :: _, [], _, h, _, _ => h.elim
/-- the heaps grow -/
theorem En.grow (E : En C Hd H σ ρ vs ss) (s1 : Sub Hd Hd') (s2 : Sub H H') (s3 : Sub Hd' H') (n : ∀ a o, nT o = true → H a = some o → Hd' a = Hd a) (tb : LamX.Tabs C.T H') : En C Hd' H' σ ρ vs ss := by
  obtain ⟨f, g, h2, h3, h4, h5⟩ := E.sep
  have fr : ∀ a ∈ f ++ g, ∃ o, nT o = true ∧ H a = some o := fun a ha => (List.mem_append.mp ha).elim (fun z => let ⟨o, t, e⟩ := h2.has a z; ⟨o, nT_pl t, e⟩) (fun z => let ⟨o, t, e⟩ := h3.has a z; ⟨o, nT_pl t, e⟩)
  have k : ∀ a ∈ f ++ g, H' a = H a := fun a ha => by obtain ⟨o, t, e⟩ := fr a ha; rw [e, s2 a o t e]
  have fH : ∀ a o, nT o = true → C.F a = some o → ∃ u, nT u = true ∧ H a = some u := E.there
  refine ⟨fun a o t hb e => s2 a o t (E.keep a o t hb e), fun a o t e => (let ⟨o', t', e'⟩ := fH a o t e; ⟨o', t', s2 a o' t' e'⟩), E.ext.trans s1, fun a o t e => ?_, s3, tb, f, g, h2.mono s1 fun a ha => k a (by simp [ha]), h3.mono s1 fun a ha => k a (by simp [ha]), h4, fun a ha => ?_⟩
  · obtain ⟨u, t', q⟩ := fH a o t e
    rw [n a u t' q]; exact E.new a o t e
  · obtain ⟨o, t, e⟩ := fr a ha
    intro u tu eu
    rw [n a o t e] at eu
    exact h5 a ha u tu eu

/-! ### no more changed -/
def fzH (f : List Addr) (H Hd : Hp) : Hp := fun a => if a ∈ f then H a else Hd a
theorem fz_in {f : List Addr} {a : Addr} (h : a ∈ f) : fzH f H Hd a = H a := by unfold fzH; rw [if_pos h]
theorem fz_out {f : List Addr} {a : Addr} (h : a ∉ f) : fzH f H Hd a = Hd a := by unfold fzH; rw [if_neg h]
theorem fz_sub {f : List Addr} (n : ∀ a ∈ f, NN Hd a) : Sub Hd (fzH f H Hd) := fun a o t e => by
  rw [fz_out fun z => n a z o t e]; exact e
theorem fz_subH {f : List Addr} (s : Sub Hd H) : Sub (fzH f H Hd) H := fun a o t e => by
  by_cases h : a ∈ f
  · rw [fz_in h] at e; exact e
  · rw [fz_out h] at e; exact s a o t e
theorem ownL_data {K : PySem.W.Frag} (s : Sub Hd Hd') : ∀ {as : List Addr} {dss : List (List D)}, (∀ a ∈ as, Hd' a = H a) → OwnL K Hd H as dss → DqAll K Hd' (as.map V.ref) (dss.map PyData.list)
  | [], [], _, _ => .nil
  | a :: as, ds :: dss, k, ⟨⟨vs, h1, h2⟩, t⟩ => .cons (.lst (Rd.of (by rw [k a (by simp)]; exact h1)) (DqAll.mono s _ _ h2)) (ownL_data s (fun b hb => k b (by simp [hb])) t)
  | [], _ :: _, _, h => h.elim
  | _ :: _, [], _, h => h.elim
theorem fz_data {o : Ow} {f : List Addr} {d : D} (n : ∀ a ∈ f, NN Hd a) (h : Own C.K Hd H v o f) (e : o.fr = some d) : Dq C.K (fzH f H Hd) v d := by
  cases o with
  | l ds =>
    obtain ⟨a, vs, rfl, rfl, h1, h2⟩ := h
    cases e
    exact .lst (Rd.of (by rw [fz_in (by simp)]; exact h1)) (DqAll.mono (fz_sub n) _ _ h2)
  | ll dss =>
    obtain ⟨a, as, rfl, rfl, h1, h2⟩ := h
    cases e
    exact .lst (Rd.of (by rw [fz_in (by simp)]; exact h1)) (ownL_data (fz_sub n) (fun b hb => fz_in (by simp [hb])) h2)
  | dk kvs => cases e
  | st n => cases e
def Sl.toD : Sl → Option D
  | .da d => some d
  | .ow o => o.fr
  | _ => none
/-- what waits on top is taken as data -/
theorem En.fz {d : D} (E : En C Hd H σ ρ (v :: vs) (s :: ss)) (e : s.toD = some d) : ∃ Hd', Sub Hd Hd' ∧ En C Hd' H σ ρ (v :: vs) (.da d :: ss) := by
  cases s with
  | da d' => cases e; exact ⟨Hd, Sub.refl _, E⟩
  | ow o =>
    obtain ⟨_, g, ⟨f1, f2, rfl, ⟨⟨w, e1, h1⟩, h0⟩, h2⟩, h3, h4, h5⟩ := E.sep
    cases e1
    have n1 : ∀ a ∈ f1, NN Hd a := fun a ha => h5 a (by simp [ha])
    have out : ∀ a ∈ f2 ++ g, a ∉ f1 := fun a ha hb => by
      have q := h4 a
      have q1 := cnt_mem hb
      have q2 := cnt_mem ha
      simp only [List.count_append] at q q2
      omega
    refine ⟨fzH f1 H Hd, fz_sub n1, E.keep, E.there, E.ext.trans (fz_sub n1), fun a o t e => ?_, fz_subH E.sub, E.tabs, f2, g, ?_, h3.mono (fz_sub n1) fun _ _ => rfl, fun a => ?_, fun a ha => ?_⟩
    · rw [fz_out fun z => h0 a z o t e]; exact E.new a o t e
    · exact ⟨[], f2, rfl, ⟨rfl, v, rfl, fz_data n1 h1 e⟩, h2.mono (fz_sub n1) fun _ _ => rfl⟩
    · have := h4 a; simp only [List.count_append] at this ⊢; omega
    · intro u tu eu; rw [fz_out (out a ha)] at eu; exact h5 a (by simp only [List.mem_append] at ha ⊢; rcases ha with ha | ha <;> simp [ha]) u tu eu
  | un => cases e
  | va _ => cases e
  | vs _ => cases e
  | bo _ => cases e
/-- the i-th slot is taken as data -/
theorem En.fzAt {d : D} {i : Nat} (E : En C Hd H σ ρ vs ss) (hi : ρ[i]? = some s) (e : s.toD = some d) : ∃ Hd' v, Sub Hd Hd' ∧ En C Hd' H σ (ρ.set i (.da d)) vs ss ∧ σ[i]? = some (some v) ∧ Dq C.K Hd' v d := by
  obtain ⟨f, g, h2, h3, h4, h5⟩ := E.sep
  obtain ⟨x, f1, g1, g2, rfl, q1, q2, q3⟩ := h3.at hi
  cases s with
  | da d' =>
    cases e
    obtain ⟨rfl, v, rfl, q⟩ := q2
    refine ⟨Hd, v, Sub.refl _, ⟨E.keep, E.there, E.ext, E.new, E.sub, E.tabs, f, _, h2, ?_, h4, h5⟩, q1, q⟩
    have q4 := q3 (Hd' := Hd) (H' := H) (some v) (.da d) [] (Sub.refl _) (fun _ _ => rfl) ⟨rfl, v, rfl, q⟩
    have e1 : σ.set i (some v) = σ := by
      apply List.ext_getElem? 
      intro j
      by_cases hj : i = j
      · subst hj
        obtain ⟨hl, hv⟩ := List.getElem?_eq_some_iff.mp q1
        rw [List.getElem?_set_self hl, q1]
      · rw [List.getElem?_set_ne hj]
    rw [e1] at q4
    exact q4
  | ow o =>
    obtain ⟨⟨v, rfl, h1⟩, h0⟩ := q2
    have n1 : ∀ a ∈ f1, NN Hd a := fun a ha => h5 a (by simp [ha])
    have out : ∀ a ∈ f ++ (g1 ++ g2), a ∉ f1 := fun a ha hb => by
      have q := h4 a
      have q1 := cnt_mem hb
      have q2 := cnt_mem ha
      simp only [List.count_append] at q q2
      omega
    have dat := fz_data n1 h1 e
    refine ⟨fzH f1 H Hd, v, fz_sub n1, ⟨E.keep, E.there, E.ext.trans (fz_sub n1), fun a o t e => ?_, fz_subH E.sub, E.tabs, f, g1 ++ [] ++ g2, h2.mono (fz_sub n1) fun _ _ => rfl, ?_, fun a => ?_, fun a ha => ?_⟩, q1, dat⟩
    · rw [fz_out fun z => h0 a z o t e]; exact E.new a o t e
    · have q4 := q3 (Hd' := fzH f1 H Hd) (H' := H) (some v) (.da d) [] (fz_sub n1) (fun _ _ => rfl) ⟨rfl, v, rfl, dat⟩
      have e1 : σ.set i (some v) = σ := by
        apply List.ext_getElem? 
        intro j
        by_cases hj : i = j
        · subst hj
          obtain ⟨hl, hv⟩ := List.getElem?_eq_some_iff.mp q1
          rw [List.getElem?_set_self hl, q1]
        · rw [List.getElem?_set_ne hj]
      rw [e1] at q4
      exact q4
    · have := h4 a; simp only [List.count_append, List.count_nil] at this ⊢; omega
    · have ha' : a ∈ f ++ (g1 ++ g2) := by simpa using ha
      intro u tu eu
      rw [fz_out (out a ha')] at eu
      exact h5 a (by simp only [List.mem_append] at ha' ⊢; rcases ha' with ha | ha | ha <;> simp [ha]) u tu eu
  | un => cases e
  | va _ => cases e
  | vs _ => cases e
  | bo _ => cases e
theorem En.atV {w : V} {i : Nat} (E : En C Hd H σ ρ vs ss) (hi : ρ[i]? = some (.va w)) : σ[i]? = some (some w) := by
  obtain ⟨f, g, h2, h3, h4, h5⟩ := E.sep
  obtain ⟨x, f1, g1, g2, rfl, q1, ⟨_, rfl⟩, q3⟩ := h3.at hi
  exact q1
theorem En.atVs {ws : List V} {i : Nat} (E : En C Hd H σ ρ vs ss) (hi : ρ[i]? = some (.vs ws)) : ∃ a, σ[i]? = some (some (.ref a)) ∧ SqT C.K Hd a ws := by
  obtain ⟨f, g, h2, h3, h4, h5⟩ := E.sep
  obtain ⟨x, f1, g1, g2, rfl, q1, ⟨_, a, rfl, q⟩, q3⟩ := h3.at hi
  exact ⟨a, q1, q⟩
theorem En.topVs {ws : List V} (E : En C Hd H σ ρ (v :: vs) (.vs ws :: ss)) : ∃ a, v = .ref a ∧ SqT C.K Hd a ws := by
  obtain ⟨_, g, ⟨f1, f2, rfl, ⟨_, a, e, h1⟩, h2⟩, _⟩ := E.sep
  cases e
  exact ⟨a, rfl, h1⟩
theorem En.pushVs {a : Addr} {ws : List V} (E : En C Hd H σ ρ vs ss) (h : SqT C.K Hd a ws) : En C Hd H σ ρ (.ref a :: vs) (.vs ws :: ss) := by
  obtain ⟨f, g, h2, h3, h4, h5⟩ := E.sep
  exact ⟨E.keep, E.there, E.ext, E.new, E.sub, E.tabs, f, g, ⟨[], f, rfl, ⟨rfl, a, rfl, h⟩, h2⟩, h3, h4, h5⟩
theorem tabs_at {T : List (Addr × Str)} {p : Addr} {o u : HO} (h : LamX.Tabs T H) (e : H p = some u) (t : plO u = true := by rfl) : LamX.Tabs T (upd H p o) := tabs_upd h fun a => by
  by_cases q : a = p
  · subst q; exact .inr fun o' e' => by rw [e] at e'; cases e'; exact t
  · exact .inl (upd_ne q)
/-- a new object that stays as it is -/
theorem tabs_new {T : List (Addr × Str)} {p : Addr} {o : HO} (h : LamX.Tabs T H) (n : H p = none) : LamX.Tabs T (upd H p o) := h.ext fun b x e => by rw [upd_ne (ne_of_none e n)]; exact e
theorem En.newD {p : Addr} {o : HO} (E : En C Hd H σ ρ vs ss) (n : H p = none) : En C (upd Hd p o) (upd H p o) σ ρ vs ss :=
  E.grow (sub_updN (E.sub.nn (.of n))) (sub_upd n) E.sub.upd2 (fun a u _ e => by rw [upd_ne (ne_of_none e n)]) (tabs_new E.tabs n)
/-- a new object that may be changed -/
theorem En.newO {p : Addr} {o : HO} {w : Ow} (E : En C Hd H σ ρ vs ss) (n : H p = none) (h : Own C.K Hd (upd H p o) (.ref p) w [p]) : En C Hd (upd H p o) σ ρ (.ref p :: vs) (.ow w :: ss) := by
  obtain ⟨f, g, h2, h3, h4, h5⟩ := E.sep
  have nF : NN C.F p := fun u t e => by obtain ⟨u', _, e⟩ := E.there p u t e; rw [n] at e; cases e
  have out : ∀ a ∈ f ++ g, a ≠ p := fun a ha => let ⟨u, _, e⟩ := (List.mem_append.mp ha).elim (h2.has a) (h3.has a); ne_of_none e n
  have k : ∀ a ∈ f ++ g, upd H p o a = H a := fun a ha => upd_ne (out a ha)
  refine ⟨fun a u t hb e => sub_upd n a u t (E.keep a u t hb e), fun a u t e => (let ⟨o', t', e'⟩ := E.there a u t e; ⟨o', t', sub_upd n a o' t' e'⟩), E.ext, E.new, E.sub.trans (sub_upd n), tabs_new E.tabs n, [p] ++ f, g,
    ⟨[p], f, rfl, ⟨⟨.ref p, rfl, h⟩, fun a ha => by simp at ha; subst ha; exact nF⟩, h2.mono (Sub.refl _) fun a ha => k a (by simp [ha])⟩, h3.mono (Sub.refl _) fun a ha => k a (by simp [ha]), fun a => ?_, fun a ha => ?_⟩
  · have q := h4 a
    simp only [List.count_append] at q ⊢
    by_cases hp : p = a
    · subst hp
      have e1 : f.count p = 0 := List.count_eq_zero.mpr fun z => out p (by simp [z]) rfl
      have e2 : g.count p = 0 := List.count_eq_zero.mpr fun z => out p (by simp [z]) rfl
      rw [e1, e2]; simp
    · have e0 : [p].count a = 0 := List.count_eq_zero.mpr fun z => hp (by simp at z; exact z.symm)
      rw [e0]; omega
  · rw [List.append_assoc] at ha
    rcases List.mem_append.mp ha with ha | ha
    · simp at ha; subst ha; exact E.sub.nn (.of n)
    · exact h5 a ha
end
end DL

-- DL2
set_option autoImplicit true
namespace DL
open PySem PySem.Spec PyProof.Rows L2
/-! ### readings over data -/
abbrev TD := Rho → (Sl → Rho → Prop) → Prop
abbrev TDT := Rho → (Bool → Rho → Prop) → Prop
abbrev TDA := Rho → (List Sl → Rho → Prop) → Prop
/-- an expression's reading over data, as one over the heap -/
def LE (C : DC) (t : TD) : TE := fun σ H Q => ∃ Hd ρ vs ss Qd, En C Hd H σ ρ vs ss ∧ (∀ s ρ' v Hd' H', Qd s ρ' → En C Hd' H' σ ρ' (v :: vs) (s :: ss) → Q v H') ∧ t ρ Qd
def LT (C : DC) (t : TDT) : TT := fun σ H Q => ∃ Hd ρ vs ss Qd, En C Hd H σ ρ vs ss ∧ (∀ b ρ' Hd' H', Qd b ρ' → En C Hd' H' σ ρ' vs ss → Q b H') ∧ t ρ Qd
def LA (C : DC) (t : TDA) : TA := fun σ H Q => ∃ Hd ρ vs ss Qd, En C Hd H σ ρ vs ss ∧ (∀ rs ρ' ws Hd' H', Qd rs ρ' → ws.length = rs.length → En C Hd' H' σ ρ' (ws ++ vs) (rs ++ ss) → Q ws H') ∧ t ρ Qd
theorem imp_e {X : Cx} {e : Expr} {t t' : TE} (h : PE X e t) (k : ∀ σ H Q, t' σ H Q → t σ H Q) : PE X e t' := ⟨fun pins s σ H Q I q => h.run pins s σ H Q I (k σ H Q q)⟩
theorem imp_t {X : Cx} {e : Expr} {t t' : TT} (h : PT X e t) (k : ∀ σ H Q, t' σ H Q → t σ H Q) : PT X e t' := ⟨fun pins s σ H Q I q => h.run pins s σ H Q I (k σ H Q q)⟩
theorem imp_a {X : Cx} {e : List Expr} {t t' : TA} (h : PA X e t) (k : ∀ σ H Q, t' σ H Q → t σ H Q) : PA X e t' := ⟨fun pos pins s σ H Q I q => h.run pos pins s σ H Q I (k σ H Q q)⟩
/-- two ways, by what is known -/
def cnd (b : Bool) (A B : Prop) : Prop := match b with
  | true => A
  | false => B
theorem cnd_of {b : Bool} {A B : Prop} (h1 : b = true → A) (h2 : b = false → B) : cnd b A B := by
  cases b with
  | true => exact h1 rfl
  | false => exact h2 rfl
theorem cnd_t {b : Bool} {A B : Prop} (e : b = true) (h : A) : cnd b A B := by subst e; exact h
theorem cnd_f {b : Bool} {A B : Prop} (e : b = false) (h : B) : cnd b A B := by subst e; exact h

/-! ### names and constants -/
/-- a slot read: what is owned is changed no more -/
def dVar (i : Nat) : TD := fun ρ Q => match ρ[i]? with
  | some (.da d) => Q (.da d) ρ
  | some (.va v) => Q (.va v) ρ
  | some (.vs xs) => Q (.vs xs) ρ
  | some (.ow o) => match o.fr with
    | some d => Q (.da d) (ρ.set i (.da d))
    | none => False
  | _ => False
def dC (d : D) : TD := fun ρ Q => Q (.da d) ρ
def dV (v : V) : TD := fun ρ Q => Q (.va v) ρ
section
variable {X : Cx} {C : DC} {e e2 : Expr}
theorem q_var {i : Nat} (h : PE X e (tVar i)) : PE X e (LE C (dVar i)) := imp_e h fun σ H Q ⟨Hd, ρ, vs, ss, Qd, E, k, q⟩ => by
  unfold dVar at q
  cases hs : ρ[i]? with
  | none => rw [hs] at q; exact q.elim
  | some s =>
    rw [hs] at q
    cases s with
    | un => exact q.elim
    | bo o => exact q.elim
    | da d =>
      obtain ⟨Hd', v, sb, E', hv, hd⟩ := E.fzAt (d := d) hs rfl
      have e1 : ρ.set i (.da d) = ρ := by
        apply List.ext_getElem?
        intro j
        by_cases hj : i = j
        · subst hj
          obtain ⟨hl, _⟩ := List.getElem?_eq_some_iff.mp hs
          rw [List.getElem?_set_self hl, hs]
        · rw [List.getElem?_set_ne hj]
      rw [e1] at E'
      exact ⟨v, hv, k _ _ v Hd' H q (E'.push hd)⟩
    | va v => exact ⟨v, E.atV hs, k _ _ v Hd H q E.pushV⟩
    | vs xs => obtain ⟨a, hv, ha⟩ := E.atVs hs; exact ⟨.ref a, hv, k _ _ _ Hd H q (E.pushVs ha)⟩
    | ow o =>
      simp only at q
      cases ho : o.fr with
      | none => rw [ho] at q; exact q.elim
      | some d =>
        rw [ho] at q
        obtain ⟨Hd', v, sb, E', hv, hd⟩ := E.fzAt (d := d) hs ho
        exact ⟨v, hv, k _ _ v Hd' H q (E'.push hd)⟩
theorem q_con {v : V} {d : D} (h : PE X e (tC v)) (hd : ∀ H, Dq C.K H v d) : PE X e (LE C (dC d)) := imp_e h fun σ H Q ⟨Hd, ρ, vs, ss, Qd, E, k, q⟩ => k _ _ _ _ _ q (E.push (hd Hd))
theorem q_int {i j pos} : PE X (.Constant (.int i) j pos) (LE C (dC (.int i))) := q_con pe_int fun _ => .int i
theorem q_bl {b j pos} : PE X (.Constant (.bool b) j pos) (LE C (dC (.bool b))) := q_con pe_bl fun _ => .bl b
theorem q_non {j pos} : PE X (.Constant .none j pos) (LE C (dC .none)) := q_con pe_non fun _ => .non
theorem q_str {x j pos} : PE X (.Constant (.str x) j pos) (LE C (dC (.str x))) := q_con pe_str fun _ => .str x
theorem q_raw {v : V} (h : PE X e (tC v)) : PE X e (LE C (dV v)) := imp_e h fun σ H Q ⟨Hd, ρ, vs, ss, Qd, E, k, q⟩ => k _ _ _ _ _ q E.pushV

/-! ### operators -/
/-- an operator of values, over data -/
def DOp (C : DC) (r : R2) (g : Sl → Sl → (Sl → Prop) → Prop) : Prop := ∀ (Hd H : Hp) (σ : L2.St) (ρ : Rho) (vs : List V) (ss : List Sl) (x y : V) (sx sy : Sl) (Q : VK) (Qd : Sl → Prop),
  En C Hd H σ ρ (y :: x :: vs) (sy :: sx :: ss) → (∀ s v Hd' H', Qd s → En C Hd' H' σ ρ (v :: vs) (s :: ss) → Q v H') → g sx sy Qd → r x y H Q
def dBin (g : Sl → Sl → (Sl → Prop) → Prop) (ta tb : TD) : TD := fun ρ Q => ta ρ fun sx ρ1 => tb ρ1 fun sy ρ2 => g sx sy fun s => Q s ρ2
theorem two {ta tb : TD} {R : V → V → Hp → Prop} {σ : L2.St} {H Hd : Hp} {ρ : Rho} {vs : List V} {ss : List Sl} {Rd : Sl → Sl → Rho → Prop} (E : En C Hd H σ ρ vs ss) (h : ta ρ fun sx ρ1 => tb ρ1 fun sy ρ2 => Rd sx sy ρ2)
    (k : ∀ x y sx sy ρ2 Hd2 H2, Rd sx sy ρ2 → En C Hd2 H2 σ ρ2 (y :: x :: vs) (sy :: sx :: ss) → R x y H2) : LE C ta σ H fun x H1 => LE C tb σ H1 fun y H2 => R x y H2 :=
  ⟨Hd, ρ, vs, ss, _, E, fun sx ρ1 x Hd1 H1 q E1 => ⟨Hd1, ρ1, _, _, _, E1, fun sy ρ2 y Hd2 H2 q2 E2 => k x y sx sy ρ2 Hd2 H2 q2 E2, q⟩, h⟩
theorem q_bin {r : R2} {g : Sl → Sl → (Sl → Prop) → Prop} {ta tb : TD} (o : DOp C r g) (h : PE X e (tOp r (LE C ta) (LE C tb))) : PE X e (LE C (dBin g ta tb)) := imp_e h fun σ H Q ⟨Hd, ρ, vs, ss, Qd, E, k, q⟩ =>
  two E q fun x y sx sy ρ2 Hd2 H2 q2 E2 => o Hd2 H2 σ ρ2 vs ss x y sx sy Q _ E2 (fun s v Hd' H' q3 E3 => k s ρ2 v Hd' H' q3 E3) q2
/-- both operands as data -/
theorem dat2 {Hd H : Hp} {σ : L2.St} {ρ : Rho} {vs : List V} {ss : List Sl} {x y : V} {sx sy : Sl} {a b : D} (E : En C Hd H σ ρ (y :: x :: vs) (sy :: sx :: ss)) (ex : sx.toD = some a) (ey : sy.toD = some b) :
    ∃ Hd', En C Hd' H σ ρ vs ss ∧ Dq C.K Hd' x a ∧ Dq C.K Hd' y b := by
  obtain ⟨Hd1, _, E1⟩ := E.fz ey
  have E2 := En.under (ws := [y]) (rs := [.da b]) E1 rfl
  obtain ⟨Hd2, s2, E3⟩ := E2.fz ex
  exact ⟨Hd2, E3.drop.drop, E3.top, E3.drop.top⟩
theorem dat1 {Hd H : Hp} {σ : L2.St} {ρ : Rho} {vs : List V} {ss : List Sl} {x : V} {sx : Sl} {a : D} (E : En C Hd H σ ρ (x :: vs) (sx :: ss)) (ex : sx.toD = some a) : ∃ Hd', En C Hd' H σ ρ vs ss ∧ Dq C.K Hd' x a := by
  obtain ⟨Hd1, _, E1⟩ := E.fz ex
  exact ⟨Hd1, E1.drop, E1.top⟩
/-- an operator that hands on data and lays nothing -/
def sc2 (f : D → D → (D → Prop) → Prop) (sx sy : Sl) (Q : Sl → Prop) : Prop := match sx.toD, sy.toD with
  | some a, some b => f a b fun d => Q (.da d)
  | _, _ => False
theorem DOp.of {r : R2} {f : D → D → (D → Prop) → Prop}
    (h : ∀ (Hd H : Hp) (σ : L2.St) (ρ : Rho) (vs : List V) (ss : List Sl) (x y : V) (a b : D) (Q : VK) (Qd : D → Prop), En C Hd H σ ρ vs ss → Dq C.K Hd x a → Dq C.K Hd y b → (∀ d v Hd' H', Qd d → En C Hd' H' σ ρ vs ss → Dq C.K Hd' v d → Q v H') → f a b Qd → r x y H Q) : DOp C r (sc2 f) := by
  intro Hd H σ ρ vs ss x y sx sy Q Qd E k q
  unfold sc2 at q
  cases ex : sx.toD with
  | none => rw [ex] at q; exact q.elim
  | some a =>
    cases ey : sy.toD with
    | none => rw [ex, ey] at q; exact q.elim
    | some b =>
      rw [ex, ey] at q
      obtain ⟨Hd1, E1, h1, h2⟩ := dat2 E ex ey
      exact h Hd1 H σ ρ vs ss x y a b Q (fun d => Qd (.da d)) E1 h1 h2 (fun d v Hd' H' qd E' hv => k _ v Hd' H' qd (E'.push hv)) q
theorem dp_int {K : PySem.W.Frag} {H : Hp} {v : V} {i : Int} (h : Dq K H v (.int i)) : v = .int i := by cases h; rfl
theorem dp_str {K : PySem.W.Frag} {H : Hp} {v : V} {i : Str} (h : Dq K H v (.str i)) : v = .str i := by cases h; rfl
theorem dp_bl {K : PySem.W.Frag} {H : Hp} {v : V} {i : Bool} (h : Dq K H v (.bool i)) : v = .bl i := by cases h; rfl
theorem dp_non {K : PySem.W.Frag} {H : Hp} {v : V} (h : Dq K H v .none) : v = .non := by cases h; rfl
theorem dp_tup {K : PySem.W.Frag} {H : Hp} {v : V} {ds : List D} (h : Dq K H v (.tuple ds)) : ∃ a xs, v = .ref a ∧ SqT K H a xs ∧ DqAll K H xs ds := by cases h with | tup h1 h2 => exact ⟨_, _, rfl, h1, h2⟩
theorem dp_lst {K : PySem.W.Frag} {H : Hp} {v : V} {ds : List D} (h : Dq K H v (.list ds)) : ∃ a xs, v = .ref a ∧ Rd H a (.lst xs) ∧ DqAll K H xs ds := by cases h with | lst h1 h2 => exact ⟨_, _, rfl, h1, h2⟩
/-- ints -/
def ii (f : Int → Int → (D → Prop) → Prop) (a b : D) (Q : D → Prop) : Prop := match a, b with
  | .int i, .int j => f i j Q
  | _, _ => False
theorem DOp.ints {r : R2} {f : Int → Int → (D → Prop) → Prop} (h : ∀ (H : Hp) (i j : Int) (Q : VK) (Qd : D → Prop), (∀ d v, Qd d → (∀ Hd, Dq C.K Hd v d) → Q v H) → f i j Qd → r (.int i) (.int j) H Q) : DOp C r (sc2 (ii f)) := by
  refine .of fun Hd H σ ρ vs ss x y a b Q Qd E h1 h2 k q => ?_
  cases a with
  | int i => cases b with
    | int j =>
      cases dp_int h1
      cases dp_int h2
      exact h H i j Q Qd (fun d v qd hv => k d v Hd H qd E (hv Hd)) q
    | _ => exact q.elim
  | _ => exact q.elim
abbrev gSub : Sl → Sl → (Sl → Prop) → Prop := sc2 (ii fun i j Q => Q (.int (i - j)))
theorem o_sub : DOp C (rI0 fun i j => .int (i - j)) gSub := .ints fun H i j Q Qd k q => ⟨i, j, rfl, rfl, k _ _ q fun _ => .int _⟩
def MulK (i j : Int) : Prop := CMul i j ∨ CMulW i j
abbrev gMod : Sl → Sl → (Sl → Prop) → Prop := sc2 (ii fun i j Q => 0 < j ∧ Q (.int (i % j)))
theorem o_mod : DOp C (rI (fun _ j => 0 < j) fun i j => .int (i % j)) gMod := .ints fun H i j Q Qd k q => ⟨i, j, rfl, rfl, q.1, k _ _ q.2 fun _ => .int _⟩
abbrev gFdiv : Sl → Sl → (Sl → Prop) → Prop := sc2 (ii fun i j Q => CDivW i j ∧ Q (.int (i / j)))
theorem o_fdiv : DOp C (rI CDivW fun i j => .int (i / j)) gFdiv := .ints fun H i j Q Qd k q => ⟨i, j, rfl, rfl, q.1, k _ _ q.2 fun _ => .int _⟩
abbrev gLt : Sl → Sl → (Sl → Prop) → Prop := sc2 (ii fun i j Q => Q (.bool (decide (i < j))))
abbrev gLe : Sl → Sl → (Sl → Prop) → Prop := sc2 (ii fun i j Q => Q (.bool (decide (i ≤ j))))
abbrev gGt : Sl → Sl → (Sl → Prop) → Prop := sc2 (ii fun i j Q => Q (.bool (decide (j < i))))
abbrev gGe : Sl → Sl → (Sl → Prop) → Prop := sc2 (ii fun i j Q => Q (.bool (decide (j ≤ i))))
theorem o_lt : DOp C (rI0 fun i j => .bl (decide (i < j))) gLt := .ints fun H i j Q Qd k q => ⟨i, j, rfl, rfl, k _ _ q fun _ => .bl _⟩
theorem o_le : DOp C (rI0 fun i j => .bl (decide (i ≤ j))) gLe := .ints fun H i j Q Qd k q => ⟨i, j, rfl, rfl, k _ _ q fun _ => .bl _⟩
theorem o_gt : DOp C (rI0 fun i j => .bl (decide (j < i))) gGt := .ints fun H i j Q Qd k q => ⟨i, j, rfl, rfl, k _ _ q fun _ => .bl _⟩
theorem o_ge : DOp C (rI0 fun i j => .bl (decide (j ≤ i))) gGe := .ints fun H i j Q Qd k q => ⟨i, j, rfl, rfl, k _ _ q fun _ => .bl _⟩
/-- + -/
def addD (a b : D) (Q : Sl → Prop) : Prop := match a, b with
  | .int i, .int j => Q (.da (.int (i + j)))
  | .str i, .str j => i.length + j.length ≤ sizeLine ∧ Q (.da (.str (i ++ j)))
  | .tuple xs, .tuple ys => xs.length + ys.length ≤ sizeLine ∧ Q (.da (.tuple (xs ++ ys)))
  | .list xs, .list ys => xs.length + ys.length ≤ sizeLine ∧ Q (.ow (.l (xs ++ ys)))
  | _, _ => False
def gAdd (sx sy : Sl) (Q : Sl → Prop) : Prop := match sx.toD, sy.toD with
  | some a, some b => addD a b Q
  | _, _ => False
/-- list + list, read only -/
def rCatL (K : PySem.W.Frag) : R2 := fun x y H Q => ∃ l b xs zs, x = .ref l ∧ y = .ref b ∧ Rd H l (.lst xs) ∧ Rd H b (.lst zs) ∧ xs.length + zs.length ≤ sizeLine ∧ ∀ p, H p = none → Q (.ref p) (upd H p (.lst (xs ++ zs)))
abbrev rAddU (K : PySem.W.Frag) : R2 := fun x y H Q => (rI0 (fun i j => .int (i + j)) x y H Q ∨ (∃ i j, x = .str i ∧ y = .str j ∧ i.length + j.length ≤ sizeLine ∧ Q (.str (i ++ j)) H)) ∨ (rCatA K x y H Q ∨ rCatL K x y H Q)
theorem op_catL : OpR X (binaryOp .Add) (rCatL X.K) := by
  intro pins s σ H x y v u Q I rx ry h
  obtain ⟨l, b, xs, zs, rfl, rfl, hl, hb, hz, q⟩ := h
  cases rx
  cases ry
  obtain ⟨z, its, n, r, e⟩ := hl.ok I.hok
  obtain ⟨z2, its2, n2, r2, e2⟩ := hb.ok I.hok
  have hl := r.length
  have hl2 := r2.length
  refine PySem.P.add_list e e2 ?_ (by rw [List.size_toArray, List.size_toArray]; omega)
  have ea : its.toArray ++ its2.toArray = (its ++ its2).toArray := by simp
  rw [ea]
  exact ⟨.ref _, _, I.lnew (t' := s.toks) (r.append r2) (by rw [List.length_append]; omega), rfl, q _ I.fresh⟩
theorem op_addU : OpR X (binaryOp .Add) (rAddU X.K) := (op_add.or op_add_str).or (op_catA.or op_catL)
end
end DL

-- XV6
set_option autoImplicit true
namespace XV
open PySem PySem.Spec PyProof.Rows L2
/-! ### tuple * int, any int -/
theorem mul_same (l : Addr) (items : Array Value) (n : Nat) (dd : Option Addr) (sl : Array (Option Value)) (x : Int) (u : Tok) (c0 : (decide (x < -(2 ^ 63)) || decide (x ≥ 2 ^ 63)) = false) (c1 : (items.isEmpty || x == 1) = true) :
    Meets (Builtin.«tuple.__mul__» ⟨[.ref l, .int x u], []⟩) (fun _ R s => s.heap.get? l = some { cls := .type "tuple", dict := dd, data := .seq items n, slots := sl } ∧ R (.ok (.ret (.ref l))) s) :=
  .of_wp fun prog w A R s h => by
    obtain ⟨hp, g, d, tk, os⟩ := s
    obtain ⟨hl, h⟩ := h
    have f1 := AutoSeq1.idx_int
    wp_walk using wpAny_loadPart' hl
    repeat (first
      | (refine wpAny_ite_false (decide_eq_false (by rw [c0]; exact Bool.false_ne_true)) ?_; wp_walk using wpAny_loadPart' hl)
      | (refine wpAny_ite_true (decide_eq_true c1) ?_; wp_walk using wpAny_loadPart' hl))
    exact ⟨_, rfl, h⟩
theorem mul_zero (l : Addr) (items : Array Value) (n : Nat) (dd : Option Addr) (sl : Array (Option Value)) (x : Int) (u : Tok) (c0 : (decide (x < -(2 ^ 63)) || decide (x ≥ 2 ^ 63)) = false) (c1 : (items.isEmpty || x == 1) = false) (c2 : (decide (x ≤ 0) || items.isEmpty) = true) :
    Meets (Builtin.«tuple.__mul__» ⟨[.ref l, .int x u], []⟩) (fun _ R s => s.heap.get? l = some { cls := .type "tuple", dict := dd, data := .seq items n, slots := sl } ∧
      R (.ok (.ret (Value.ref s.heap.objs.size))) { s with heap := s.heap.push { cls := Value.type "tuple", data := Data.seq #[] }, toks := s.toks }) :=
  .of_wp fun prog w A R s h => by
    obtain ⟨hp, g, d, tk, os⟩ := s
    obtain ⟨hl, h⟩ := h
    have f1 := AutoSeq1.idx_int
    wp_walk using wpAny_loadPart' hl
    repeat (first
      | (refine wpAny_ite_false (decide_eq_false (by rw [c0]; exact Bool.false_ne_true)) ?_; wp_walk using wpAny_loadPart' hl)
      | (refine wpAny_ite_false (decide_eq_false (by rw [c1]; exact Bool.false_ne_true)) ?_; wp_walk using wpAny_loadPart' hl)
      | (refine wpAny_ite_true (decide_eq_true c2) ?_; wp_walk using wpAny_loadPart' hl))
    exact ⟨_, rfl, h⟩
section
variable {X : Cx}
/-- what a tuple times k asks -/
def rRepU (K : PySem.W.Frag) : R2 := fun x y H Q => ∃ l k xs, x = .ref l ∧ y = .int k ∧ SqT K H l xs ∧ -(2 ^ 63) ≤ k ∧ k ≤ 1000 ∧ xs.length ≤ 1000 ∧
  ((xs = [] ∨ k = 1) → Q (.ref l) H) ∧ (¬ (xs = [] ∨ k = 1) → ∀ p, H p = none → Q (.ref p) (upd H p (.tup (List.replicate k.toNat xs).flatten)))
theorem op_repU : OpR X (binaryOp .Mult) (rRepU X.K) := by
  intro pins s σ H x y v u Q I rx ry h
  obtain ⟨l, k, xs, ex, ey, hT, lo, hi, hz, q1, q2⟩ := h
  by_cases c : xs ≠ [] ∧ 2 ≤ k
  · exact op_repT pins s σ H x y v u Q I rx ry ⟨l, k, xs, ex, ey, hT, c.1, c.2, hi, hz, q2 fun z => z.elim c.1 fun z => by omega⟩
  subst ex ey
  cases rx
  obtain ⟨t, rfl⟩ := ry
  have two (P : Shared → Prop) (R : Value → Shared → Prop) : True := trivial
  obtain ⟨items, r, ⟨⟨cls, dd, data, sl⟩, ho, hc, n, hd⟩, hs⟩ := I.tuple hT
  dsimp only at hc hd
  subst hc hd
  have len : items.length = xs.length := r.length.symm
  have out : (decide (k < -(2 ^ 63)) || decide (k ≥ 2 ^ 63)) = false := by
    rw [decide_eq_false (show ¬ k < -(2 ^ 63) by omega), decide_eq_false (show ¬ k ≥ 2 ^ 63 by omega), Bool.or_self]
  have emp : items.toArray.isEmpty = decide (xs = []) := by
    cases items with
    | nil => cases xs with
      | nil => rfl
      | cons => simp at len
    | cons a b => cases xs with
      | nil => simp at len
      | cons => rfl
  by_cases c1 : xs = [] ∨ k = 1
  · have b1 : (items.toArray.isEmpty || k == 1) = true := by
      rw [emp]
      rcases c1 with z | z <;> simp [z]
    exact wpAny_binaryOp_repeat_ref (T := "tuple") (U := "int") (by decide) ⟨_, ho, rfl⟩ (fun z => typeIs_int z k t) noFill_tuple_mul F.fills_int_mul F.slot_int_rmul repeat_tuple F.slot_int_index.lookup
      (call_meets F.slot_int_rmul (typeIs_int s k t) F.entry_int_rmul (F.args_int_rmul_2 _ _) (int_rmul_tuple k t l items.toArray n dd sl) ⟨ho, rfl, ⟨_, ho, rfl⟩,
        call_meets F.slot_tuple_mul ⟨_, ho, rfl⟩ F.entry_tuple_mul (F.args_tuple_mul_2 _ _) (mul_same l items.toArray n dd sl k t out b1) ⟨ho, .ref l, H, I, rfl, q1 c1⟩⟩)
  · have b1 : (items.toArray.isEmpty || k == 1) = false := by
      rw [emp, decide_eq_false fun z => c1 (.inl z), Bool.false_or]
      exact beq_eq_false_iff_ne.mpr fun z => c1 (.inr z)
    have k0 : k ≤ 0 := by
      have : ¬ 2 ≤ k := fun z => c ⟨fun z => c1 (.inl z), z⟩
      have : k ≠ 1 := fun z => c1 (.inr z)
      omega
    have b2 : (decide (k ≤ 0) || items.toArray.isEmpty) = true := by rw [decide_eq_true k0, Bool.true_or]
    have e0 : (List.replicate k.toNat xs).flatten = [] := by rw [show k.toNat = 0 by omega]; rfl
    have q := q2 c1
    rw [e0] at q
    exact wpAny_binaryOp_repeat_ref (T := "tuple") (U := "int") (by decide) ⟨_, ho, rfl⟩ (fun z => typeIs_int z k t) noFill_tuple_mul F.fills_int_mul F.slot_int_rmul repeat_tuple F.slot_int_index.lookup
      (call_meets F.slot_int_rmul (typeIs_int s k t) F.entry_int_rmul (F.args_int_rmul_2 _ _) (int_rmul_tuple k t l items.toArray n dd sl) ⟨ho, rfl, ⟨_, ho, rfl⟩,
        call_meets F.slot_tuple_mul ⟨_, ho, rfl⟩ F.entry_tuple_mul (F.args_tuple_mul_2 _ _) (mul_zero l items.toArray n dd sl k t out b1 b2) ⟨ho, .ref s.heap.objs.size, _,
          I.laid (t' := s.toks) (o := .tup []) (fun b ob z => Heap.get?_push_of_some _ z) (Nat.le_refl _) ⟨Nat.zero_le _, [], .nil, IsTup.new _ _⟩, rfl, q _ (I.hok.fresh (Nat.le_refl _))⟩⟩)
/-! ### repr -/
def rRepr (K : PySem.W.Frag) : List V → Hp → VK → Prop := fun xs H Q => ∃ x d, xs = [x] ∧ Dp K H x d ∧ d.showable = true ∧ d.hasDict = false ∧ d.depth ≤ 40 ∧ d.shown.length ≤ sizeLine ∧ Q (.str d.shown) H
theorem call_reprD (hgd : X.A.guards = some []) (hu : X.A.units + 64 < cLine) : CallR X (.builtin "repr") (rRepr X.K) := by
  intro pins s σ H xs us Q I r h
  obtain ⟨x, d, rfl, hd, h1, h2, h3, h4, q⟩ := h
  obtain ⟨u, rfl, rx⟩ := vals1 r
  have flat : ∀ {z : Str}, z.length ≤ sizeLine → d.shown = z → EP X pins σ Q (.str z s.toks) { s with toks := s.toks + 1 } := fun {z} _ e => ⟨.str z, H, I.tok _, ⟨_, rfl⟩, e ▸ q⟩
  cases d with
  | none => cases hd; cases rx; exact PySem.P.repr_of_none (flat (by decide) rfl)
  | bool b => cases hd; cases rx; exact PySem.P.repr_of_bool (flat (by cases b <;> decide) rfl)
  | int i => cases hd; obtain ⟨t, rfl⟩ := rx; exact PySem.P.repr_of_int (of_decide_eq_true h1) (flat h4 rfl)
  | str z => cases hd; obtain ⟨t, rfl⟩ := rx; exact PySem.P.repr_of_str (flat h4 rfl) h4
  | list ds =>
    obtain ⟨as, rd⟩ := Dp.reads I _ _ _ hd rx
    cases hd
    cases rx
    exact repr_of_reads' rd h1 (PyData.noDict_hsm h2) hgd (by omega) (fun _ _ z => z) (fun h' u tk k => ⟨.str _, H, I.kept k, ⟨_, rfl⟩, q⟩) h4
  | tuple ds =>
    obtain ⟨as, rd⟩ := Dp.reads I _ _ _ hd rx
    cases hd
    cases rx
    exact repr_of_reads' rd h1 (PyData.noDict_hsm h2) hgd (by omega) (fun _ _ z => z) (fun h' u tk k => ⟨.str _, H, I.kept k, ⟨_, rfl⟩, q⟩) h4
  | dict _ => cases hd
end
/-! ### len(set(xs)), ints -/
/-- the different ones -/
def dd : List Int → List Int
  | [] => []
  | x :: xs => if x ∈ xs then dd xs else x :: dd xs
theorem mem_dd {k : Int} : ∀ {ns : List Int}, k ∈ dd ns ↔ k ∈ ns
  | [] => Iff.rfl
  | x :: xs => by
    unfold dd
    split
    · rename_i h
      rw [mem_dd, List.mem_cons]
      exact ⟨.inr, fun z => z.elim (fun e => e ▸ h) id⟩
    · rw [List.mem_cons, List.mem_cons, mem_dd]
theorem dd_nodup : ∀ (ns : List Int), (dd ns).Nodup
  | [] => .nil
  | x :: xs => by
    unfold dd
    split
    · exact dd_nodup xs
    · rename_i h
      exact List.nodup_cons.mpr ⟨fun z => h (mem_dd.mp z), dd_nodup xs⟩
/-- how many different ones -/
def cardI (ns : List Int) : Nat := (dd ns).length
theorem nodup_len : ∀ {a b : List Int}, a.Nodup → b.Nodup → (∀ k, k ∈ a ↔ k ∈ b) → a.length = b.length
  | [], [], _, _, _ => rfl
  | [], y :: _, _, _, h => by have := (h y).mpr (by simp); cases this
  | x :: a, b, ha, hb, h => by
    have hx : x ∈ b := (h x).mp (by simp)
    have hn := List.nodup_cons.mp ha
    have e := List.length_erase_of_mem hx
    have pos : 0 < b.length := List.length_pos_of_mem hx
    have := nodup_len (a := a) (b := b.erase x) hn.2 (hb.erase x) fun k => by
      rw [hb.mem_erase_iff]
      constructor
      · intro hk
        exact ⟨fun z => hn.1 (z ▸ hk), (h k).mp (List.mem_cons_of_mem _ hk)⟩
      · rintro ⟨h1, h2⟩
        rcases List.mem_cons.mp ((h k).mpr h2) with z | z
        · exact (h1 z).elim
        · exact z
    rw [List.length_cons]
    omega
theorem cardI_eq {ns l : List Int} (hl : l.Nodup) (h : ∀ k, k ∈ l ↔ k ∈ ns) : cardI ns = l.length := nodup_len (dd_nodup ns) hl fun k => by rw [mem_dd]; exact (h k).symm
theorem met_nodup (val : Nat → Int) : ∀ i, (PyProof.Rows.firstMet val i).Nodup
  | 0 => .nil
  | i + 1 => by
    have ih := met_nodup val i
    rw [PyProof.Rows.firstMet_succ]
    unfold PyProof.Rows.step_dedup
    split
    · exact ih
    · rename_i h
      refine List.nodup_append.mpr ⟨ih, List.nodup_cons.mpr ⟨by simp, .nil⟩, fun a ha b hb e => ?_⟩
      simp only [List.mem_singleton] at hb
      exact h (List.any_eq_true.mpr ⟨a, ha, by rw [e, hb]; simp⟩)
theorem met_card (ns : List Int) : (PyProof.Rows.firstMet (fun i => ns.getD i 0) ns.length).length = cardI ns := by
  refine (cardI_eq (met_nodup _ _) fun k => ?_).symm
  have h := PyProof.Rows.firstMet_any (fun i => ns.getD i 0) ns.length k
  have e : (List.range ns.length).map (fun i => ns.getD i 0) = ns := by
    apply List.ext_getElem?
    intro i
    rw [List.getElem?_map]
    by_cases hi : i < ns.length
    · rw [List.getElem?_range hi, List.getElem?_eq_getElem hi, Option.map_some, List.getD_eq_getElem?_getD, List.getElem?_eq_getElem hi, Option.getD_some]
    · rw [List.getElem?_eq_none (by simp; omega), List.getElem?_eq_none (by omega)]; rfl
  rw [e] at h
  constructor
  · intro hk
    have z : ns.any (· == k) = true := h ▸ List.any_eq_true.mpr ⟨k, hk, by simp⟩
    obtain ⟨y, hy, ey⟩ := List.any_eq_true.mp z
    exact (eq_of_beq ey) ▸ hy
  · intro hk
    have z : (PyProof.Rows.firstMet (fun i => ns.getD i 0) ns.length).any (· == k) = true := h ▸ List.any_eq_true.mpr ⟨k, hk, by simp⟩
    obtain ⟨y, hy, ey⟩ := List.any_eq_true.mp z
    exact (eq_of_beq ey) ▸ hy
section
variable {X : Cx} {a : Expr} {ta : TE} {p p2 q pos : Pos}
def tLenSetU (K : PySem.W.Frag) (ta : TE) : TE := fun σ H Q => ta σ H fun x H1 => ∃ (l : Addr) (ns : List Int), x = .ref l ∧ (SqL K H1 l (ns.map V.int) ∨ SqT K H1 l (ns.map V.int)) ∧ ns.length ≤ 4000 ∧ Q (.int (cardI ns : Nat)) H1
theorem ints_vals : ∀ {ns : List Int} {us : List Value}, Vals (ns.map V.int) us → PyProof.Rows.IntsAre us ns
  | [], _, .nil => .nil
  | n :: ns, _, .cons ⟨k, e⟩ t => by subst e; exact .cons n k (ints_vals t)
theorem pe_lenSetA (hg : Gl X "len") (hm : X.mg "len" = none) (hg2 : Gl X "set") (hm2 : X.mg "set" = none) (ha : PE X a ta) (hc : X.calm = true := by rfl)
    (na : starEach [a] X.env = (false, eval a X.env) :: starEach [] X.env := by rfl) : PE X (.Call (.Name "len" p) [.Call (.Name "set" p2) [a] [] q] [] pos) (tLenSetU X.K ta) := by
  refine ⟨fun pins s σ H Q I h => ?_⟩
  refine Call_ (ld_blt I hg hm boot_len (PyProof.Rows.callWith_builtin1 (PyProof.Rows.args_cons ?_ rfl) rfl rfl))
  refine Call_ (ld_blt I hg2 hm2 boot_set (PyProof.Rows.callWith_type1 (PyProof.Rows.args_cons (thn (ha.run pins s σ H _ I h) fun v s1 ⟨x, H1, I1, r1, q1⟩ => PyProof.Rows.args_nil ?_) na) na rfl))
  obtain ⟨l, ns, rfl, hq, hl, q1⟩ := q1
  cases r1
  rcases hq with hq | hq
  · obtain ⟨its, r, pl, hz⟩ := I1.list hq
    have len : its.toArray.size = ns.length := by rw [List.size_toArray, ← r.length, List.length_map]
    refine call_set_list (I1.ok.hd hc) pl.isList (by simpa using ints_vals r) (by rw [len]; unfold scanBound; omega) fun h' tk hS hk => PyProof.Rows.args_nil ?_
    rw [len, met_card] at hS
    obtain ⟨o, es, ep, t, ho, hex, hd, _, _, _, hf, hn⟩ := hS
    have I2 : Inv X pins σ H1 { s1 with heap := h', toks := tk } := I1.kept fun b o e => hk b o (Heap.lt_size e) e
    have bd : es.size ≤ ns.length := by rw [hn]; exact (met_card ns) ▸ PyProof.Rows.firstMet_length_le _ _
    exact call_len_set ho hex hd hf (by omega) ⟨.int _, H1, I2.tok _, ⟨_, by rw [hn]⟩, q1⟩
  · obtain ⟨its, r, pl, hz⟩ := I1.tuple hq
    refine call_set_tupI ns (I1.ok.hd hc) pl (by simpa using ints_vals r) (by unfold scanBound; omega) fun h' tk c hS hc' hk => PyProof.Rows.args_nil ?_
    obtain ⟨o, es, ep, t, ho, hex, hd, _, hnd, hmem, _, hf, hn, _⟩ := hS
    have I2 : Inv X pins σ H1 { s1 with heap := h', toks := tk } := I1.kept hk
    have e : cardI ns = c := by
      rw [cardI_eq hnd (ns := ns) fun k => by rw [← hmem]; exact decide_eq_true_iff, List.length_map, ← hn, Array.length_toList]
    exact call_len_set ho hex hd hf (by omega) ⟨.int _, H1, I2.tok _, ⟨_, by rw [hn, ← e]⟩, q1⟩
end
end XV

-- DL3
set_option autoImplicit true
namespace DL
open PySem PySem.Spec PyProof.Rows L2
section
variable {X : Cx} {C : DC} {e e2 : Expr}
/-- a new list, owned -/
theorem En.newL {Hd H : Hp} {σ : L2.St} {ρ : Rho} {vs : List V} {ss : List Sl} {p : Addr} {xs : List V} {ds : List D} (E : En C Hd H σ ρ vs ss) (n : H p = none) (h : DqAll C.K Hd xs ds) :
    En C Hd (upd H p (.lst xs)) σ ρ (.ref p :: vs) (.ow (.l ds) :: ss) := E.newO n ⟨p, xs, rfl, rfl, upd_same, h⟩
/-- a new tuple -/
theorem En.newT {Hd H : Hp} {σ : L2.St} {ρ : Rho} {vs : List V} {ss : List Sl} {p : Addr} {xs : List V} {ds : List D} (E : En C Hd H σ ρ vs ss) (n : H p = none) (h : DqAll C.K Hd xs ds) :
    En C (upd Hd p (.tup xs)) (upd H p (.tup xs)) σ ρ (.ref p :: vs) (.da (.tuple ds) :: ss) :=
  (E.newD n).push (.tup (SqT.of upd_same) (DqAll.mono (sub_updN (E.sub.nn (.of n))) _ _ h))
theorem addD_ok (hK : C.K = X.K) {Hd H : Hp} {σ : L2.St} {ρ : Rho} {vs : List V} {ss : List Sl} {x y : V} {Q : VK} {Qd : Sl → Prop} : ∀ (a b : D), En C Hd H σ ρ vs ss → Dq C.K Hd x a → Dq C.K Hd y b →
    (∀ s v Hd' H', Qd s → En C Hd' H' σ ρ (v :: vs) (s :: ss) → Q v H') → addD a b Qd → rAddU X.K x y H Q := by
  intro a b E1 h1 h2 k q
  unfold addD at q
  split at q
  · cases dp_int h1; cases dp_int h2
    exact .inl (.inl ⟨_, _, rfl, rfl, k _ _ Hd H q (E1.push (.int _))⟩)
  · cases dp_str h1; cases dp_str h2
    exact .inl (.inr ⟨_, _, rfl, rfl, q.1, k _ _ Hd H q.2 (E1.push (.str _))⟩)
  · obtain ⟨p, xs, rfl, hx, ax⟩ := dp_tup h1
    obtain ⟨r, ys, rfl, hy, ay⟩ := dp_tup h2
    have lx := ax.length
    have ly := ay.length
    refine .inr (.inl ⟨p, r, xs, ys, rfl, rfl, hK ▸ E1.sub.seqT hx, hK ▸ E1.sub.seqT hy, by rw [lx, ly]; exact q.1, fun z => ?_, fun _ z => ?_, fun _ _ p' np => ?_⟩)
    · subst z
      cases ax
      exact k _ _ Hd H q.2 (E1.push (.tup hy ay))
    · subst z
      cases ay
      refine k _ _ Hd H q.2 (E1.push ?_)
      rw [List.append_nil]
      exact .tup hx ax
    · exact k _ _ _ _ q.2 (E1.newT np (ax.append ay))
  · obtain ⟨p, xs, rfl, hx, ax⟩ := dp_lst h1
    obtain ⟨r, ys, rfl, hy, ay⟩ := dp_lst h2
    have lx := ax.length
    have ly := ay.length
    exact .inr (.inr ⟨p, r, xs, ys, rfl, rfl, E1.sub.rd hx, E1.sub.rd hy, by rw [lx, ly]; exact q.1, fun p' np => k _ _ _ _ q.2 (E1.newL np (ax.append ay))⟩)
  · exact q.elim
theorem o_add (hK : C.K = X.K) : DOp C (rAddU X.K) gAdd := by
  intro Hd H σ ρ vs ss x y sx sy Q Qd E k q
  unfold gAdd at q
  cases ex : sx.toD with
  | none => rw [ex] at q; exact q.elim
  | some a =>
    cases ey : sy.toD with
    | none => rw [ex, ey] at q; exact q.elim
    | some b =>
      rw [ex, ey] at q
      obtain ⟨Hd1, E1, h1, h2⟩ := dat2 E ex ey
      exact addD_ok hK a b E1 h1 h2 (fun s v Hd' H' => k s v Hd' H') q
/-! * -/
abbrev rMulU (K : PySem.W.Frag) : R2 := fun x y H Q => (rI CMul (fun i j => .int (i * j)) x y H Q ∨ rI CMulW (fun i j => .int (i * j)) x y H Q) ∨ (rRep x y H Q ∨ XV.rRepU K x y H Q)
theorem op_mulU : OpR X (binaryOp .Mult) (rMulU X.K) := (op_mul.or op_mulW).or (op_rep.or XV.op_repU)
def gMul (sx sy : Sl) (Q : Sl → Prop) : Prop := match sx, sy with
  | .da (.int i), .da (.int j) => MulK i j ∧ Q (.da (.int (i * j)))
  | .ow (.l ds), .da (.int j) => ds.length * j.toNat ≤ sizeLine ∧ -(2 ^ 63) ≤ j ∧ j < 2 ^ 63 ∧ Q (.ow (.l (List.replicate j.toNat ds).flatten))
  | .da (.tuple ds), .da (.int j) => (-(2 ^ 63) ≤ j ∧ j ≤ 1000 ∧ ds.length ≤ 1000) ∧ Q (.da (.tuple (List.replicate j.toNat ds).flatten))
  | _, _ => False
theorem DqAll.rep {K : PySem.W.Frag} {H : Hp} {xs : List V} {ds : List D} (h : DqAll K H xs ds) : ∀ n : Nat, DqAll K H (List.replicate n xs).flatten (List.replicate n ds).flatten
  | 0 => .nil
  | n + 1 => by
    rw [List.replicate_succ, List.replicate_succ, List.flatten_cons, List.flatten_cons]
    exact h.append (h.rep n)
/-- what waits on top is a list that is owned -/
theorem En.topL {Hd H : Hp} {σ : L2.St} {ρ : Rho} {v : V} {vs : List V} {ss : List Sl} {ds : List D} (E : En C Hd H σ ρ (v :: vs) (.ow (.l ds) :: ss)) : ∃ a xs, v = .ref a ∧ H a = some (.lst xs) ∧ DqAll C.K Hd xs ds := by
  obtain ⟨_, g, ⟨f1, f2, rfl, ⟨⟨w, e, a, xs, rfl, _, h1, h2⟩, _⟩, _⟩, _⟩ := E.sep
  cases e
  exact ⟨a, xs, rfl, h1, h2⟩
theorem o_mul (hK : C.K = X.K) : DOp C (rMulU X.K) gMul := by
  intro Hd H σ ρ vs ss x y sx sy Q Qd E k q
  unfold gMul at q
  split at q
  · have h1 := E.drop.top
    have h2 := E.top
    cases dp_int h1; cases dp_int h2
    rcases q.1 with c | c
    · exact .inl (.inl ⟨_, _, rfl, rfl, c, k _ _ Hd H q.2 (E.drop.drop.push (.int _))⟩)
    · exact .inl (.inr ⟨_, _, rfl, rfl, c, k _ _ Hd H q.2 (E.drop.drop.push (.int _))⟩)
  · have h2 := E.top
    cases dp_int h2
    obtain ⟨a, xs, rfl, h1, h3⟩ := E.drop.topL
    have l := h3.length
    obtain ⟨q1, q2, q3, q4⟩ := q
    exact .inr (.inl ⟨a, _, xs, rfl, rfl, h1, q2, q3, by rw [l]; exact q1, fun p np => k _ _ _ _ q4 (E.drop.drop.newL np (h3.rep _))⟩)
  · rename_i ds j
    have h1 := E.drop.top
    cases dp_int E.top
    obtain ⟨a, xs, rfl, hx, ax⟩ := dp_tup h1
    obtain ⟨⟨q1, q2, q3⟩, q4⟩ := q
    have l := ax.length
    refine .inr (.inr ⟨a, j, xs, rfl, rfl, hK ▸ E.sub.seqT hx, q1, q2, by omega, fun z => ?_, fun _ p np => k _ _ _ _ q4 (E.drop.drop.newT np (ax.rep _))⟩)
    have e : (List.replicate j.toNat ds).flatten = ds := by
      rcases z with z | z
      · subst z
        cases ax
        induction j.toNat with
        | zero => rfl
        | succ n ih => rw [List.replicate_succ, List.flatten_cons, ih]; rfl
      · subst z; simp
    rw [e] at q4
    exact k _ _ _ _ q4 (E.drop.drop.push h1)
  · exact q.elim
abbrev gPow : Sl → Sl → (Sl → Prop) → Prop := sc2 (ii fun i j Q => CPow i j ∧ Q (.int (i ^ j.toNat)))
theorem o_pow : DOp C (rI CPow fun i j => .int (i ^ j.toNat)) gPow := .ints fun H i j Q Qd k q => ⟨i, j, rfl, rfl, q.1, k _ _ q.2 fun _ => .int _⟩
/-! == -/
def eqB (a b : D) (Q : Bool → Prop) : Prop := match a, b with
  | .int i, .int j => Q (decide (i = j))
  | .str i, .str j => Q (decide (i = j))
  | .none, .none => Q true
  | a, b => SeqAt.shaped a = true ∧ SeqAt.shaped b = true ∧ Q (PyData.eqv a b)
abbrev rEqU (K : PySem.W.Frag) : R2 := fun x y H Q => rEq x y H Q ∨ rEqD K x y H Q
abbrev rNeU (K : PySem.W.Frag) : R2 := fun x y H Q => rNe x y H Q ∨ rNeD K x y H Q
theorem op_eqU (hu : X.A.units + 64 < cLine) : OpR X (compareOp .Eq) (rEqU X.K) := op_eq.or (op_eqD hu)
theorem op_neU (hu : X.A.units + 64 < cLine) : OpR X (compareOp .NotEq) (rNeU X.K) := op_ne.or (op_neD hu)
abbrev gEq : Sl → Sl → (Sl → Prop) → Prop := sc2 fun a b Q => eqB a b fun r => Q (.bool r)
abbrev gNe : Sl → Sl → (Sl → Prop) → Prop := sc2 fun a b Q => eqB a b fun r => Q (.bool (!r))
theorem dq_sub {K : PySem.W.Frag} {Hd H : Hp} {v : V} {d : D} (s : Sub Hd H) (h : Dq K Hd v d) : Dp K H v d := Dq.dp _ _ (Dq.mono s _ _ h)
theorem o_eq (hK : C.K = X.K) : DOp C (rEqU X.K) gEq := .of fun Hd H σ ρ vs ss x y a b Q Qd E h1 h2 k q => by
  unfold eqB at q
  split at q
  · cases dp_int h1; cases dp_int h2
    refine .inl ⟨rfl, ?_⟩
    rw [show (decide (V.int _ = V.int _)) = decide _ from decide_eq_decide.mpr (V.int.injEq _ _).to_iff]
    exact k _ _ Hd H q E (.bl _)
  · cases dp_str h1; cases dp_str h2
    refine .inl ⟨rfl, ?_⟩
    rw [show (decide (V.str _ = V.str _)) = decide _ from decide_eq_decide.mpr (V.str.injEq _ _).to_iff]
    exact k _ _ Hd H q E (.bl _)
  · cases dp_non h1; cases dp_non h2
    exact .inl ⟨rfl, k _ _ Hd H q E (.bl _)⟩
  · exact .inr ⟨a, b, hK ▸ dq_sub E.sub h1, hK ▸ dq_sub E.sub h2, q.1, q.2.1, k _ _ Hd H q.2.2 E (.bl _)⟩
theorem o_ne (hK : C.K = X.K) : DOp C (rNeU X.K) gNe := .of fun Hd H σ ρ vs ss x y a b Q Qd E h1 h2 k q => by
  unfold eqB at q
  split at q
  · cases dp_int h1; cases dp_int h2
    refine .inl ⟨rfl, ?_⟩
    rw [show (decide (V.int _ = V.int _)) = decide _ from decide_eq_decide.mpr (V.int.injEq _ _).to_iff]
    exact k _ _ Hd H q E (.bl _)
  · cases dp_str h1; cases dp_str h2
    refine .inl ⟨rfl, ?_⟩
    rw [show (decide (V.str _ = V.str _)) = decide _ from decide_eq_decide.mpr (V.str.injEq _ _).to_iff]
    exact k _ _ Hd H q E (.bl _)
  · cases dp_non h1; cases dp_non h2
    exact .inl ⟨rfl, k _ _ Hd H q E (.bl _)⟩
  · exact .inr ⟨a, b, hK ▸ dq_sub E.sub h1, hK ▸ dq_sub E.sub h2, q.1, q.2.1, k _ _ Hd H q.2.2 E (.bl _)⟩
/-! is None -/
abbrev gIsN : Sl → Sl → (Sl → Prop) → Prop := sc2 fun a b Q => match b with
  | .none => Q (.bool (match a with | .none => true | _ => false))
  | _ => False
abbrev gNotN : Sl → Sl → (Sl → Prop) → Prop := sc2 fun a b Q => match b with
  | .none => Q (.bool (match a with | .none => false | _ => true))
  | _ => False
theorem o_isN : DOp C (fun x y H Q => y = .non ∧ Q (.bl (decide (x = .non))) H) gIsN := .of fun Hd H σ ρ vs ss x y a b Q Qd E h1 h2 k q => by
  cases b with
  | none =>
    cases dp_non h2
    refine ⟨rfl, k _ _ Hd H q E ?_⟩
    cases h1 <;> exact .bl _
  | _ => exact q.elim
theorem o_notN : DOp C (fun x y H Q => y = .non ∧ Q (.bl (!decide (x = .non))) H) gNotN := .of fun Hd H σ ρ vs ss x y a b Q Qd E h1 h2 k q => by
  cases b with
  | none =>
    cases dp_non h2
    refine ⟨rfl, k _ _ Hd H q E ?_⟩
    cases h1 <;> exact .bl _
  | _ => exact q.elim
/-! in -/
def flatD : D → Bool
  | .none => true | .bool _ => true | .int _ => true | .str _ => true | _ => false
theorem flat_of {K : PySem.W.Frag} {H : Hp} {v : V} {d : D} (h : Dq K H v d) (f : flatD d = true) : flatV v = true := by cases h <;> first | rfl | cases f
theorem flats_of {K : PySem.W.Frag} {H : Hp} : ∀ {vs : List V} {ds : List D}, DqAll K H vs ds → ds.all flatD = true → vs.all flatV = true
  | _, _, .nil, _ => rfl
  | _, _, .cons h t, f => by
    rw [List.all_cons, Bool.and_eq_true] at f ⊢
    exact ⟨flat_of h f.1, flats_of t f.2⟩
theorem eqV_eqv {K : PySem.W.Frag} {H : Hp} {v w : V} {d e : D} (h : Dq K H v d) (g : Dq K H w e) (f : flatD d = true) (f' : flatD e = true) : eqV v w = PyData.eqv d e := by
  cases h <;> cases g <;> first | rfl | cases f | cases f' | (simp [eqV, PyData.eqv])
theorem inV_eqv {K : PySem.W.Frag} {H : Hp} {w : V} {e : D} (g : Dq K H w e) (f' : flatD e = true) : ∀ {vs : List V} {ds : List D}, DqAll K H vs ds → ds.all flatD = true → inV w vs = ds.any fun z => PyData.eqv z e
  | _, _, .nil, _ => rfl
  | _, _, .cons h t, f => by
    rw [List.all_cons, Bool.and_eq_true] at f
    have q := inV_eqv g f' t f.2
    unfold inV at q ⊢
    rw [List.any_cons, List.any_cons, q, eqV_eqv h g f.1 f']
def inB (a b : D) (Q : Bool → Prop) : Prop := match b with
  | .list ds => (flatD a = true ∧ ds.all flatD = true) ∧ Q (ds.any fun z => PyData.eqv z a)
  | .tuple ds => (flatD a = true ∧ ds.all flatD = true) ∧ Q (ds.any fun z => PyData.eqv z a)
  | _ => False
abbrev gIn : Sl → Sl → (Sl → Prop) → Prop := sc2 fun a b Q => inB a b fun r => Q (.bool r)
abbrev gNotIn : Sl → Sl → (Sl → Prop) → Prop := sc2 fun a b Q => inB a b fun r => Q (.bool (!r))
theorem o_in (hK : C.K = X.K) : DOp C (rIn X.K false) gIn := .of fun Hd H σ ρ vs ss x y a b Q Qd E h1 h2 k q => by
  cases b with
  | list ds =>
    obtain ⟨p, xs, rfl, hx, ax⟩ := dp_lst h2
    refine ⟨p, xs, rfl, .inl (.inl (E.sub.rd hx)), flat_of h1 q.1.1, flats_of ax q.1.2, k _ _ Hd H q.2 E ?_⟩
    rw [if_neg Bool.false_ne_true, inV_eqv h1 q.1.1 ax q.1.2]; exact .bl _
  | tuple ds =>
    obtain ⟨p, xs, rfl, hx, ax⟩ := dp_tup h2
    refine ⟨p, xs, rfl, .inr (hK ▸ E.sub.seqT hx), flat_of h1 q.1.1, flats_of ax q.1.2, k _ _ Hd H q.2 E ?_⟩
    rw [if_neg Bool.false_ne_true, inV_eqv h1 q.1.1 ax q.1.2]; exact .bl _
  | _ => exact q.elim
theorem o_notIn (hK : C.K = X.K) : DOp C (rIn X.K true) gNotIn := .of fun Hd H σ ρ vs ss x y a b Q Qd E h1 h2 k q => by
  cases b with
  | list ds =>
    obtain ⟨p, xs, rfl, hx, ax⟩ := dp_lst h2
    refine ⟨p, xs, rfl, .inl (.inl (E.sub.rd hx)), flat_of h1 q.1.1, flats_of ax q.1.2, k _ _ Hd H q.2 E ?_⟩
    rw [if_pos rfl, inV_eqv h1 q.1.1 ax q.1.2]; exact .bl _
  | tuple ds =>
    obtain ⟨p, xs, rfl, hx, ax⟩ := dp_tup h2
    refine ⟨p, xs, rfl, .inr (hK ▸ E.sub.seqT hx), flat_of h1 q.1.1, flats_of ax q.1.2, k _ _ Hd H q.2 E ?_⟩
    rw [if_pos rfl, inV_eqv h1 q.1.1 ax q.1.2]; exact .bl _
  | _ => exact q.elim
/-! a[i] -/
def someQ {α : Type} (o : Option α) (Q : α → Prop) : Prop := match o with
  | some a => Q a
  | none => False
theorem someQ_of {α : Type} {o : Option α} {a : α} {Q : α → Prop} (h : o = some a) (q : Q a) : someQ o Q := by rw [h]; exact q
theorem someQ_inv {α : Type} {o : Option α} {Q : α → Prop} (h : someQ o Q) : ∃ a, o = some a ∧ Q a := by
  cases o with
  | none => exact h.elim
  | some a => exact ⟨a, rfl, h⟩
/-- the item at a place of any sign -/
def atD {α : Type} (xs : List α) : Int → Option α
  | .ofNat n => xs[n]?
  | .negSucc n => if n < xs.length then xs[xs.length - 1 - n]? else none
theorem atD_eq {α : Type} (xs : List α) (i : Int) : atD xs i = L2.atI xs i := by
  unfold L2.atI ixN
  cases i with
  | ofNat n =>
    show xs[n]? = Option.bind (if 0 ≤ (n : Int) then (if (n : Int) < xs.length then some (n : Int).toNat else none) else if -(xs.length : Int) ≤ (n : Int) then some ((n : Int) + xs.length).toNat else none) _
    rw [if_pos (Int.natCast_nonneg n)]
    by_cases h : n < xs.length
    · rw [if_pos (by omega)]
      rfl
    · rw [if_neg (by omega), List.getElem?_eq_none (by omega)]
      rfl
  | negSucc n =>
    have e0 : ¬ (0 : Int) ≤ Int.negSucc n := by omega
    rw [if_neg e0]
    show (if n < xs.length then xs[xs.length - 1 - n]? else none) = _
    by_cases h : n < xs.length
    · have e1 : -(xs.length : Int) ≤ Int.negSucc n := by omega
      rw [if_pos h, if_pos e1]
      show _ = xs[(Int.negSucc n + (xs.length : Int)).toNat]?
      have e2 : (Int.negSucc n + (xs.length : Int)).toNat = xs.length - 1 - n := by omega
      rw [e2]
    · have e1 : ¬ -(xs.length : Int) ≤ Int.negSucc n := by omega
      rw [if_neg h, if_neg e1]
      rfl
def ixB (a b : D) (Q : D → Prop) : Prop := match a, b with
  | .tuple ds, .int i => someQ (atD ds i) Q
  | .list ds, .int i => someQ (atD ds i) Q
  | .str z, .int i => z.length ≤ sizeLine ∧ someQ (atD z.cps.toList i) fun c => Q (.str ⟨#[c]⟩)
  | _, _ => False
abbrev gIx : Sl → Sl → (Sl → Prop) → Prop := sc2 ixB
theorem DqAll.atI {K : PySem.W.Frag} {H : Hp} {vs : List V} {ds : List D} {i : Int} {d : D} (h : DqAll K H vs ds) (e : L2.atI ds i = some d) : ∃ v, L2.atI vs i = some v ∧ Dq K H v d := by
  unfold L2.atI at e ⊢
  rw [h.length]
  cases q : ixN ds.length i with
  | none => rw [q] at e; cases e
  | some j =>
    rw [q] at e
    exact h.get e
theorem o_ix (hK : C.K = X.K) : DOp C (rIx X.K) gIx := .of fun Hd H σ ρ vs ss x y a b Q Qd E h1 h2 k q => by
  unfold ixB at q
  split at q
  · cases dp_int h2
    obtain ⟨p, xs, rfl, hx, ax⟩ := dp_tup h1
    obtain ⟨d, hd, q⟩ := someQ_inv q
    rw [atD_eq] at hd
    obtain ⟨v, hv, dv⟩ := ax.atI hd
    exact .inr (.inl ⟨p, xs, _, v, rfl, rfl, hK ▸ E.sub.seqT hx, hv, k _ _ Hd H q E dv⟩)
  · cases dp_int h2
    obtain ⟨p, xs, rfl, hx, ax⟩ := dp_lst h1
    obtain ⟨d, hd, q⟩ := someQ_inv q
    rw [atD_eq] at hd
    obtain ⟨v, hv, dv⟩ := ax.atI hd
    exact .inl ⟨p, xs, _, v, rfl, rfl, .inl (E.sub.rd hx), hv, k _ _ Hd H q E dv⟩
  · cases dp_int h2
    cases dp_str h1
    obtain ⟨hz, q⟩ := q
    obtain ⟨c, hc, q⟩ := someQ_inv q
    rw [atD_eq] at hc
    exact .inr (.inr ⟨_, _, c, rfl, rfl, hz, hc, k _ _ Hd H q E (.str _)⟩)
  · exact q.elim
end
end DL

-- DL4
set_option autoImplicit true
namespace DL
open PySem PySem.Spec PyProof.Rows L2
section
variable {X : Cx} {C : DC} {e e2 : Expr} {es : List Expr} {te : TD} {ta : TDA}
/-! ### arguments -/
def dNil : TDA := fun ρ Q => Q [] ρ
def dCons (te : TD) (ta : TDA) : TDA := fun ρ Q => te ρ fun s ρ1 => ta ρ1 fun ss ρ2 => Q (s :: ss) ρ2
theorem a_nil : PA X [] (LA C dNil) := imp_a pa_nil fun σ H Q ⟨Hd, ρ, vs, ss, Qd, E, k, q⟩ => k [] ρ [] Hd H q rfl E
theorem a_cons (he : PE X e (LE C te)) (ha : PA X es (LA C ta)) (hs : starEach (e :: es) X.env = (false, eval e X.env) :: starEach es X.env := by rfl) : PA X (e :: es) (LA C (dCons te ta)) :=
  imp_a (pa_cons he ha hs) fun σ H Q ⟨Hd, ρ, vs, ss, Qd, E, k, q⟩ =>
    ⟨Hd, ρ, vs, ss, _, E, fun s ρ1 v Hd1 H1 q1 E1 => ⟨Hd1, ρ1, v :: vs, s :: ss, _, E1, fun rs ρ2 ws Hd2 H2 q2 l E2 => k (s :: rs) ρ2 (v :: ws) Hd2 H2 q2 (by simp [l]) (E2.under l), q1⟩, q⟩
def toDs : List Sl → Option (List D)
  | [] => some []
  | s :: ss => match s.toD, toDs ss with
    | some d, some ds => some (d :: ds)
    | _, _ => none
def toVs : List Sl → Option (List V)
  | [] => some []
  | .va v :: ss => match toVs ss with
    | some vs => some (v :: vs)
    | none => none
  | _ => none
theorem En.fzs {σ : L2.St} {ρ : Rho} : ∀ {rs : List Sl} {ds : List D} {ws vs : List V} {ss : List Sl} {Hd H : Hp}, En C Hd H σ ρ (ws ++ vs) (rs ++ ss) → ws.length = rs.length → toDs rs = some ds → ∃ Hd', Sub Hd Hd' ∧ En C Hd' H σ ρ vs ss ∧ DqAll C.K Hd' ws ds
  | [], _, [], _, _, Hd, _, E, _, e => by cases e; exact ⟨Hd, Sub.refl _, E, .nil⟩
  | s :: rs, ds, w :: ws, vs, ss, Hd, H, E, l, e => by
    unfold toDs at e
    cases es : s.toD with
    | none => rw [es] at e; cases e
    | some d =>
      cases er : toDs rs with
      | none => rw [es, er] at e; cases e
      | some ds' =>
        rw [es, er] at e
        cases e
        obtain ⟨Hd1, s1, E1⟩ := En.fz (v := w) (s := s) (vs := ws ++ vs) (ss := rs ++ ss) E es
        obtain ⟨Hd2, s2, E2, a2⟩ := En.fzs E1.drop (by simpa using l) er
        exact ⟨Hd2, s1.trans s2, E2, .cons (Dq.mono s2 _ _ E1.top) a2⟩
  | [], _, _ :: _, _, _, _, _, _, l, _ => by simp at l
  | _ :: _, _, [], _, _, _, _, _, l, _ => by simp at l
theorem En.raws {σ : L2.St} {ρ : Rho} : ∀ {rs : List Sl} {xs : List V} {ws vs : List V} {ss : List Sl} {Hd H : Hp}, En C Hd H σ ρ (ws ++ vs) (rs ++ ss) → ws.length = rs.length → toVs rs = some xs → En C Hd H σ ρ vs ss ∧ ws = xs
  | [], _, [], _, _, Hd, _, E, _, e => by cases e; exact ⟨E, rfl⟩
  | s :: rs, ds, w :: ws, vs, ss, Hd, H, E, l, e => by
    cases s with
    | va v =>
      unfold toVs at e
      cases er : toVs rs with
      | none => rw [er] at e; cases e
      | some xs =>
        rw [er] at e
        cases e
        have E' : En C Hd H σ ρ (w :: (ws ++ vs)) (.va v :: (rs ++ ss)) := E
        obtain ⟨E2, q⟩ := En.raws E'.drop (by simpa using l) er
        exact ⟨E2, by rw [E'.topV, q]⟩
    | _ => cases e
  | [], _, _ :: _, _, _, _, _, _, l, _ => by simp at l
  | _ :: _, _, [], _, _, _, _, _, l, _ => by simp at l
/-! ### displays -/
def tupS (rs : List Sl) (Q : Sl → Prop) : Prop := match toDs rs with
  | some ds => Q (.da (.tuple ds))
  | none => match toVs rs with
    | some xs => Q (.vs xs)
    | none => False
def dTup (ta : TDA) : TD := fun ρ Q => ta ρ fun rs ρ1 => cnd (Nat.ble rs.length 1000) (tupS rs fun s => Q s ρ1) False
def dLst (ta : TDA) : TD := fun ρ Q => ta ρ fun rs ρ1 => cnd (Nat.ble rs.length 1000) (match toDs rs with
  | some ds => Q (.ow (.l ds)) ρ1
  | none => False) False
theorem cnd_inv {b : Bool} {A : Prop} (h : cnd b A False) : b = true ∧ A := by
  cases b with
  | true => exact ⟨rfl, h⟩
  | false => exact h.elim
theorem q_tup {n pos} (h : PA X es (LA C ta)) : PE X (.Tuple es n pos) (LE C (dTup ta)) := imp_e (pe_tup h) fun σ H Q ⟨Hd, ρ, vs, ss, Qd, E, k, q⟩ =>
  ⟨Hd, ρ, vs, ss, _, E, fun rs ρ1 ws Hd1 H1 q1 l E1 => by
    obtain ⟨hl, q2⟩ := cnd_inv q1
    refine ⟨by rw [l, sizeLine_eq]; have := Nat.le_of_ble_eq_true hl; omega, fun p np => ?_⟩
    unfold tupS at q2
    cases e : toDs rs with
    | some ds =>
      rw [e] at q2
      obtain ⟨Hd2, _, E2, a2⟩ := E1.fzs l e
      exact k _ _ _ _ _ q2 (E2.newT np a2)
    | none =>
      rw [e] at q2
      cases e2 : toVs rs with
      | none => simp only [e2] at q2
      | some xs =>
        simp only [e2] at q2
        obtain ⟨E2, rfl⟩ := E1.raws l e2
        exact k _ _ _ _ _ q2 ((E2.newD np).pushVs (SqT.of upd_same)), q⟩
theorem q_lst {pos} (h : PA X es (LA C ta)) : PE X (.List es pos) (LE C (dLst ta)) := imp_e (pe_lst h) fun σ H Q ⟨Hd, ρ, vs, ss, Qd, E, k, q⟩ =>
  ⟨Hd, ρ, vs, ss, _, E, fun rs ρ1 ws Hd1 H1 q1 l E1 => by
    obtain ⟨hl, q2⟩ := cnd_inv q1
    refine ⟨by rw [l, sizeLine_eq]; have := Nat.le_of_ble_eq_true hl; omega, fun p np => ?_⟩
    cases e : toDs rs with
    | some ds =>
      rw [e] at q2
      obtain ⟨Hd2, _, E2, a2⟩ := E1.fzs l e
      exact k _ _ _ _ _ q2 (E2.newL np a2)
    | none => rw [e] at q2; exact q2.elim, q⟩
/-! ### calls of built-ins, by values -/
def DN (C : DC) (r : List V → Hp → VK → Prop) (g : List Sl → (Sl → Prop) → Prop) : Prop := ∀ (Hd H : Hp) (σ : L2.St) (ρ : Rho) (vs ws : List V) (ss rs : List Sl) (Q : VK) (Qd : Sl → Prop),
  En C Hd H σ ρ (ws ++ vs) (rs ++ ss) → ws.length = rs.length → (∀ s v Hd' H', Qd s → En C Hd' H' σ ρ (v :: vs) (s :: ss) → Q v H') → g rs Qd → r ws H Q
def dB (g : List Sl → (Sl → Prop) → Prop) (ta : TDA) : TD := fun ρ Q => ta ρ fun rs ρ1 => g rs fun s => Q s ρ1
theorem q_b {r : List V → Hp → VK → Prop} {g : List Sl → (Sl → Prop) → Prop} (n : DN C r g) (h : PE X e (tCB r (LA C ta))) : PE X e (LE C (dB g ta)) := imp_e h fun σ H Q ⟨Hd, ρ, vs, ss, Qd, E, k, q⟩ =>
  ⟨Hd, ρ, vs, ss, _, E, fun rs ρ1 ws Hd1 H1 q1 l E1 => n Hd1 H1 σ ρ1 vs ws ss rs Q _ E1 l (fun s v Hd' H' qs E' => k s ρ1 v Hd' H' qs E') q1, q⟩
/-- one argument, as data -/
def da1 (f : D → (Sl → Prop) → Prop) (rs : List Sl) (Q : Sl → Prop) : Prop := match rs with
  | [s] => match s.toD with
    | some d => f d Q
    | none => False
  | _ => False
def da2 (f : D → D → (Sl → Prop) → Prop) (rs : List Sl) (Q : Sl → Prop) : Prop := match rs with
  | [s, s'] => match s.toD, s'.toD with
    | some d, some d' => f d d' Q
    | _, _ => False
  | _ => False
theorem DN.of1 {r : List V → Hp → VK → Prop} {f : D → (Sl → Prop) → Prop} (h : ∀ (Hd H : Hp) (σ : L2.St) (ρ : Rho) (vs : List V) (ss : List Sl) (x : V) (a : D) (Q : VK) (Qd : Sl → Prop),
    En C Hd H σ ρ vs ss → Dq C.K Hd x a → (∀ s v Hd' H', Qd s → En C Hd' H' σ ρ (v :: vs) (s :: ss) → Q v H') → f a Qd → r [x] H Q) : DN C r (da1 f) := by
  intro Hd H σ ρ vs ws ss rs Q Qd E l k q
  unfold da1 at q
  match rs, ws, l, q with
  | [s], [w], _, q =>
    simp only at q
    cases es : s.toD with
    | none => rw [es] at q; exact q.elim
    | some d =>
      rw [es] at q
      obtain ⟨Hd1, E1, h1⟩ := dat1 (vs := vs) (ss := ss) E es
      exact h Hd1 H σ ρ vs ss w d Q Qd E1 h1 k q
theorem DN.of2 {r : List V → Hp → VK → Prop} {f : D → D → (Sl → Prop) → Prop} (h : ∀ (Hd H : Hp) (σ : L2.St) (ρ : Rho) (vs : List V) (ss : List Sl) (x y : V) (a b : D) (Q : VK) (Qd : Sl → Prop),
    En C Hd H σ ρ vs ss → Dq C.K Hd x a → Dq C.K Hd y b → (∀ s v Hd' H', Qd s → En C Hd' H' σ ρ (v :: vs) (s :: ss) → Q v H') → f a b Qd → r [x, y] H Q) : DN C r (da2 f) := by
  intro Hd H σ ρ vs ws ss rs Q Qd E l k q
  unfold da2 at q
  match rs, ws, l, q with
  | [s, s'], [w, w'], l, q =>
    simp only at q
    cases es : s.toD with
    | none => rw [es] at q; exact q.elim
    | some d =>
      cases es' : s'.toD with
      | none => rw [es, es'] at q; exact q.elim
      | some d' =>
        rw [es, es'] at q
        have e2 : toDs [s, s'] = some [d, d'] := by simp [toDs, es, es']
        obtain ⟨Hd1, _, E1, a1⟩ := E.fzs l e2
        cases a1 with
        | cons h1 a1 => cases a1 with
          | cons h2 _ => exact h Hd1 H σ ρ vs ss w w' d d' Q Qd E1 h1 h2 k q
/-- len -/
def lenS (rs : List Sl) (Q : Sl → Prop) : Prop := match rs with
  | [.da (.tuple ds)] => Q (.da (.int ds.length))
  | [.da (.list ds)] => Q (.da (.int ds.length))
  | [.da (.str z)] => z.length ≤ sizeLine ∧ Q (.da (.int z.length))
  | [.ow (.l ds)] => Q (.da (.int ds.length))
  | _ => False
theorem n_len (hK : C.K = X.K) : DN C (fun xs H Q => ∃ x n, xs = [x] ∧ LenV X.K x H n ∧ Q (.int n) H) lenS := by
  intro Hd H σ ρ vs ws ss rs Q Qd E l k q
  unfold lenS at q
  split at q
  · match ws, l with
    | [w], _ =>
      have E' : En C Hd H σ ρ (w :: vs) (.da (.tuple _) :: ss) := E
      obtain ⟨a, xs, rfl, h, ax⟩ := dp_tup E'.top
      exact ⟨_, _, rfl, .inr ⟨xs, hK ▸ E.sub.seqT h, rfl⟩, k _ _ Hd H q (by rw [ax.length]; exact E'.drop.push (.int _))⟩
  · match ws, l with
    | [w], _ =>
      have E' : En C Hd H σ ρ (w :: vs) (.da (.list _) :: ss) := E
      obtain ⟨a, xs, rfl, h, ax⟩ := dp_lst E'.top
      exact ⟨_, _, rfl, .inl ⟨xs, .inl (E.sub.rd h), rfl⟩, k _ _ Hd H q (by rw [ax.length]; exact E'.drop.push (.int _))⟩
  · match ws, l with
    | [w], _ =>
      have E' : En C Hd H σ ρ (w :: vs) (.da (.str _) :: ss) := E
      cases dp_str E'.top
      exact ⟨_, _, rfl, ⟨q.1, rfl⟩, k _ _ Hd H q.2 (E'.drop.push (.int _))⟩
  · match ws, l with
    | [w], _ =>
      have E' : En C Hd H σ ρ (w :: vs) (.ow (.l _) :: ss) := E
      obtain ⟨a, xs, rfl, h, ax⟩ := E'.topL
      exact ⟨_, _, rfl, .inl ⟨xs, SqL.of h, rfl⟩, k _ _ Hd H q (by rw [ax.length]; exact E'.drop.push (.int _))⟩
  · exact q.elim
/-- tuple(x) -/
def tupleD (a : D) (Q : Sl → Prop) : Prop := match a with
  | .list ds => Q (.da (.tuple ds))
  | .tuple ds => Q (.da (.tuple ds))
  | _ => False
theorem n_tuple (hK : C.K = X.K) : DN C (fun xs H Q => ∃ p ys, xs = [.ref p] ∧ ((SqL X.K H p ys ∧ ∀ l, H l = none → Q (.ref l) (upd H l (.tup ys))) ∨ (SqT X.K H p ys ∧ Q (.ref p) H))) (da1 tupleD) :=
  .of1 fun Hd H σ ρ vs ss x a Q Qd E h1 k q => by
    unfold tupleD at q
    split at q
    · obtain ⟨p, xs, rfl, h, ax⟩ := dp_lst h1
      exact ⟨p, xs, rfl, .inl ⟨.inl (E.sub.rd h), fun l nl => k _ _ _ _ q (E.newT nl ax)⟩⟩
    · obtain ⟨p, xs, rfl, h, ax⟩ := dp_tup h1
      exact ⟨p, xs, rfl, .inr ⟨hK ▸ E.sub.seqT h, k _ _ Hd H q (E.push h1)⟩⟩
    · exact q.elim
/-- list(x) -/
def listD (a : D) (Q : Sl → Prop) : Prop := match a with
  | .list ds => Q (.ow (.l ds))
  | .tuple ds => Q (.ow (.l ds))
  | _ => False
theorem n_list (hK : C.K = X.K) : DN C (fun xs H Q => ∃ p ys, xs = [.ref p] ∧ (SqL X.K H p ys ∨ SqT X.K H p ys) ∧ ∀ l, H l = none → Q (.ref l) (upd H l (.lst ys))) (da1 listD) :=
  .of1 fun Hd H σ ρ vs ss x a Q Qd E h1 k q => by
    unfold listD at q
    split at q
    · obtain ⟨p, xs, rfl, h, ax⟩ := dp_lst h1
      exact ⟨p, xs, rfl, .inl (.inl (E.sub.rd h)), fun l nl => k _ _ _ _ q (E.newL nl ax)⟩
    · obtain ⟨p, xs, rfl, h, ax⟩ := dp_tup h1
      exact ⟨p, xs, rfl, .inr (hK ▸ E.sub.seqT h), fun l nl => k _ _ _ _ q (E.newL nl ax)⟩
    · exact q.elim
theorem ints_of {K : PySem.W.Frag} {H : Hp} : ∀ {vs : List V} {is : List Int}, DqAll K H vs (is.map PyData.int) → vs = is.map V.int
  | [], [], _ => rfl
  | _, i :: is, .cons h t => by rw [dp_int h, ints_of t]; rfl
theorem bls_of {K : PySem.W.Frag} {H : Hp} : ∀ {vs : List V} {is : List Bool}, DqAll K H vs (is.map PyData.bool) → vs = is.map V.bl
  | [], [], _ => rfl
  | _, i :: is, .cons h t => by rw [dp_bl h, bls_of t]; rfl
/-- max(xs), min(xs), sum(xs) of a list of ints; all(xs), any(xs) of a list of bools -/
def maxD (a : D) (Q : Sl → Prop) : Prop := match a with
  | .list ds => ∃ is : List Int, ds = is.map .int ∧ 0 < is.length ∧ ∀ m, m ∈ is → (∀ y, y ∈ is → y ≤ m) → Q (.da (.int m))
  | _ => False
def minD (a : D) (Q : Sl → Prop) : Prop := match a with
  | .list ds => ∃ is : List Int, ds = is.map .int ∧ 0 < is.length ∧ ∀ m, m ∈ is → (∀ y, y ∈ is → m ≤ y) → Q (.da (.int m))
  | _ => False
def sumD (a : D) (Q : Sl → Prop) : Prop := match a with
  | .list ds => ∃ is : List Int, ds = is.map .int ∧ Q (.da (.int is.sum))
  | _ => False
def allD (a : D) (Q : Sl → Prop) : Prop := match a with
  | .list ds => ∃ is : List Bool, ds = is.map .bool ∧ Q (.da (.bool (is.all id)))
  | _ => False
def anyD (a : D) (Q : Sl → Prop) : Prop := match a with
  | .list ds => ∃ is : List Bool, ds = is.map .bool ∧ Q (.da (.bool (is.any id)))
  | _ => False
theorem n_max : DN C (rMax X.K) (da1 maxD) := .of1 fun Hd H σ ρ vs ss x a Q Qd E h1 k q => by
  cases a with
  | list ds =>
    obtain ⟨is, rfl, h0, q⟩ := q
    obtain ⟨p, xs, rfl, h, ax⟩ := dp_lst h1
    cases ints_of ax
    exact ⟨p, is, rfl, .inl (E.sub.rd h), h0, fun m hm hy => k _ _ Hd H (q m hm hy) (E.push (.int _))⟩
  | _ => exact q.elim
theorem n_min : DN C (rMin X.K) (da1 minD) := .of1 fun Hd H σ ρ vs ss x a Q Qd E h1 k q => by
  cases a with
  | list ds =>
    obtain ⟨is, rfl, h0, q⟩ := q
    obtain ⟨p, xs, rfl, h, ax⟩ := dp_lst h1
    cases ints_of ax
    exact ⟨p, is, rfl, .inl (E.sub.rd h), h0, fun m hm hy => k _ _ Hd H (q m hm hy) (E.push (.int _))⟩
  | _ => exact q.elim
theorem n_sum : DN C (rSum X.K) (da1 sumD) := .of1 fun Hd H σ ρ vs ss x a Q Qd E h1 k q => by
  cases a with
  | list ds =>
    obtain ⟨is, rfl, q⟩ := q
    obtain ⟨p, xs, rfl, h, ax⟩ := dp_lst h1
    cases ints_of ax
    exact ⟨p, is, rfl, .inl (E.sub.rd h), k _ _ Hd H q (E.push (.int _))⟩
  | _ => exact q.elim
theorem n_all : DN C (rAll X.K) (da1 allD) := .of1 fun Hd H σ ρ vs ss x a Q Qd E h1 k q => by
  cases a with
  | list ds =>
    obtain ⟨is, rfl, q⟩ := q
    obtain ⟨p, xs, rfl, h, ax⟩ := dp_lst h1
    cases bls_of ax
    exact ⟨p, is, rfl, .inl (E.sub.rd h), k _ _ Hd H q (E.push (.bl _))⟩
  | _ => exact q.elim
theorem n_any : DN C (rAny X.K) (da1 anyD) := .of1 fun Hd H σ ρ vs ss x a Q Qd E h1 k q => by
  cases a with
  | list ds =>
    obtain ⟨is, rfl, q⟩ := q
    obtain ⟨p, xs, rfl, h, ax⟩ := dp_lst h1
    cases bls_of ax
    exact ⟨p, is, rfl, .inl (E.sub.rd h), k _ _ Hd H q (E.push (.bl _))⟩
  | _ => exact q.elim
def iiS (f : Int → Int → Int) (a b : D) (Q : Sl → Prop) : Prop := match a, b with
  | .int i, .int j => Q (.da (.int (f i j)))
  | _, _ => False
theorem n_ii {f : Int → Int → Int} {r : List V → Hp → VK → Prop} (h : ∀ i j H Q, Q (.int (f i j)) H → r [.int i, .int j] H Q) : DN C r (da2 (iiS f)) := .of2 fun Hd H σ ρ vs ss x y a b Q Qd E h1 h2 k q => by
  unfold iiS at q
  split at q
  · cases dp_int h1; cases dp_int h2
    exact h _ _ H Q (k _ _ Hd H q (E.push (.int _)))
  · exact q.elim
theorem n_max2 : DN C (fun xs H Q => ∃ i j, xs = [.int i, .int j] ∧ Q (.int (if j > i then j else i)) H) (da2 (iiS fun i j => if j > i then j else i)) := n_ii fun i j H Q q => ⟨i, j, rfl, q⟩
theorem n_min2 : DN C (fun xs H Q => ∃ i j, xs = [.int i, .int j] ∧ Q (.int (if j < i then j else i)) H) (da2 (iiS fun i j => if j < i then j else i)) := n_ii fun i j H Q q => ⟨i, j, rfl, q⟩
theorem n_gcd : DN C rGcd (da2 (iiS fun i j => ((Nat.gcd i.natAbs j.natAbs : Nat) : Int))) := n_ii fun i j H Q q => ⟨i, j, rfl, q⟩
def absS (a : D) (Q : Sl → Prop) : Prop := match a with
  | .int i => Q (.da (.int (if i < 0 then -i else i)))
  | _ => False
theorem n_abs : DN C (fun xs H Q => ∃ i, xs = [.int i] ∧ Q (.int (if i < 0 then -i else i)) H) (da1 absS) := .of1 fun Hd H σ ρ vs ss x a Q Qd E h1 k q => by
  cases a with
  | int i => cases dp_int h1; exact ⟨i, rfl, k _ _ Hd H q (E.push (.int _))⟩
  | _ => exact q.elim
/-- isinstance(x, T) -/
def tyD : D → String
  | .none => "NoneType" | .bool _ => "bool" | .int _ => "int" | .str _ => "str" | .list _ => "list" | .tuple _ => "tuple" | .dict _ => "dict"
def isInt : D → Bool
  | .int _ => true | .bool _ => true | _ => false
def isBool : D → Bool
  | .bool _ => true | _ => false
def isStr : D → Bool
  | .str _ => true | _ => false
def isList : D → Bool
  | .list _ => true | _ => false
def isTuple : D → Bool
  | .tuple _ => true | _ => false
def dIs (f : D → Bool) (te : TD) : TD := fun ρ Q => te ρ fun s ρ1 => match s.toD with
  | some d => Q (.da (.bool (f d))) ρ1
  | none => False
theorem tyx_of {K : PySem.W.Frag} {Hd H : Hp} {v : V} {d : D} (h : Dq K Hd v d) (s : Sub Hd H) : TyX K H v (.type (tyD d)) := by
  cases h with
  | non => exact .base .non
  | bl b => exact .base (.bl b)
  | int i => exact .base (.int i)
  | str x => exact .base (.str x)
  | lst h _ =>
    rcases s.rd h with h | ⟨o, h⟩
    · exact .base (.lst h)
    · exact .base (.frz h)
  | tup h _ =>
    rcases s.seqT h with (h | ⟨o, h⟩) | ⟨o, its, n, e, c, _⟩
    · exact .base (.tup h)
    · exact .fTuple h
    · exact .kTuple e c
theorem q_isi (hK : C.K = X.K) {f : D → Bool} {T : String} (hf : ∀ (K : PySem.W.Frag) (H : Hp) (v : V) (d : D), Dq K H v d → L2.kitB (tyD d) T = some (f d)) (h : PE X e (tCB (rIsi X.K) (tCons (LE C te) (tCons (tC (.ty T)) tNil)))) : PE X e (LE C (dIs f te)) :=
  imp_e h fun σ H Q ⟨Hd, ρ, vs, ss, Qd, E, k, q⟩ =>
    ⟨Hd, ρ, vs, ss, _, E, fun s ρ1 v Hd1 H1 q1 E1 => by
      cases e : s.toD with
      | none => rw [e] at q1; exact q1.elim
      | some d =>
        rw [e] at q1
        obtain ⟨Hd2, E2, h1⟩ := dat1 E1 e
        exact ⟨v, _, _, _, f d, rfl, .ty T, hK ▸ tyx_of h1 E2.sub, kit_ty (hf _ _ _ _ h1), k _ _ _ Hd2 H1 q1 (E2.push (.bl _))⟩, q⟩
theorem k_int {K : PySem.W.Frag} {H : Hp} {v : V} {d : D} (h : Dq K H v d) : L2.kitB (tyD d) "int" = some (isInt d) := by cases h <;> simp only [tyD, isInt, isBool, isStr, isList, isTuple] <;> decide +kernel
theorem k_bool {K : PySem.W.Frag} {H : Hp} {v : V} {d : D} (h : Dq K H v d) : L2.kitB (tyD d) "bool" = some (isBool d) := by cases h <;> simp only [tyD, isInt, isBool, isStr, isList, isTuple] <;> decide +kernel
theorem k_str {K : PySem.W.Frag} {H : Hp} {v : V} {d : D} (h : Dq K H v d) : L2.kitB (tyD d) "str" = some (isStr d) := by cases h <;> simp only [tyD, isInt, isBool, isStr, isList, isTuple] <;> decide +kernel
theorem k_list {K : PySem.W.Frag} {H : Hp} {v : V} {d : D} (h : Dq K H v d) : L2.kitB (tyD d) "list" = some (isList d) := by cases h <;> simp only [tyD, isInt, isBool, isStr, isList, isTuple] <;> decide +kernel
theorem k_tuple {K : PySem.W.Frag} {H : Hp} {v : V} {d : D} (h : Dq K H v d) : L2.kitB (tyD d) "tuple" = some (isTuple d) := by cases h <;> simp only [tyD, isInt, isBool, isStr, isList, isTuple] <;> decide +kernel
end
end DL

-- DL5
set_option autoImplicit true
namespace DL
open PySem PySem.Spec PyProof.Rows L2
section
variable {X : Cx} {C : DC} {e a b c : Expr} {es : List Expr} {te ta tb tc : TD} {t u : TDT}
/-! ### tests -/
def dTst (te : TD) : TDT := fun ρ Q => te ρ fun s ρ1 => match s with
  | .da (.bool b) => Q b ρ1
  | _ => False
theorem tst_le {σ : L2.St} {H : Hp} {Q : Bool → Hp → Prop} (h : LT C (dTst te) σ H Q) : LE C te σ H fun x H' => ∃ k, x = .bl k ∧ Q k H' := by
  obtain ⟨Hd, ρ, vs, ss, Qd, E, k, q⟩ := h
  refine ⟨Hd, ρ, vs, ss, _, E, fun s ρ1 v Hd1 H1 q1 E1 => ?_, q⟩
  split at q1
  · cases dp_bl E1.top
    exact ⟨_, rfl, k _ ρ1 Hd1 H1 q1 E1.drop⟩
  · exact q1.elim
theorem t_val (h : PE X e (LE C te)) (he : ∀ whole, isTrue e X.env whole = (do let v ← whole; standAt e.pos; holding [v] (truthy v)) := by intro _; rfl) : PT X e (LT C (dTst te)) := imp_t (pt_val h he) fun σ H Q q => tst_le q
theorem bin_le {r : R2} {g : Sl → Sl → (Sl → Prop) → Prop} (o : DOp C r g) {σ : L2.St} {H : Hp} {Q : VK} (h : LE C (dBin g ta tb) σ H Q) : tOp r (LE C ta) (LE C tb) σ H Q := by
  obtain ⟨Hd, ρ, vs, ss, Qd, E, k, q⟩ := h
  exact two E q fun x y sx sy ρ2 Hd2 H2 q2 E2 => o Hd2 H2 σ ρ2 vs ss x y sx sy Q _ E2 (fun s v Hd' H' q3 E3 => k s ρ2 v Hd' H' q3 E3) q2
theorem t_bin {r : R2} {g : Sl → Sl → (Sl → Prop) → Prop} (o : DOp C r g) (h : PT X e (tTest (tOp r (LE C ta) (LE C tb)))) : PT X e (LT C (dTst (dBin g ta tb))) := imp_t h fun σ H Q q => bin_le o (tst_le q)
/-- a op b op' c -/
def dChain (g g' : Sl → Sl → (Sl → Prop) → Prop) (ta tb tc : TD) : TD := fun ρ Q => ta ρ fun sx ρ1 => tb ρ1 fun sy ρ2 => match sy with
  | .da d => g sx (.da d) fun s => match s with
    | .da (.bool k) => cnd k (tc ρ2 fun sz ρ3 => g' (.da d) sz fun s' => Q s' ρ3) (Q (.da (.bool false)) ρ2)
    | _ => False
  | _ => False
theorem chain_le {r r' : R2} {g g' : Sl → Sl → (Sl → Prop) → Prop} (o : DOp C r g) (o' : DOp C r' g') {σ : L2.St} {H : Hp} {Q : VK} (h : LE C (dChain g g' ta tb tc) σ H Q) : tChain r r' (LE C ta) (LE C tb) (LE C tc) σ H Q := by
  obtain ⟨Hd, ρ, vs, ss, Qd, E, k, q⟩ := h
  refine two E q fun x y sx sy ρ2 Hd2 H2 q2 E2 => ?_
  cases sy with
  | da d =>
    -- y waits twice
    have E3 : En C Hd2 H2 σ ρ2 (y :: y :: x :: vs) (.da d :: .da d :: sx :: ss) := E2.push E2.top
    have E4 : En C Hd2 H2 σ ρ2 (x :: y :: y :: vs) (sx :: .da d :: .da d :: ss) := En.under (ws := [y, y]) (rs := [.da d, .da d]) E3 rfl
    have E5 : En C Hd2 H2 σ ρ2 (y :: x :: y :: vs) (.da d :: sx :: .da d :: ss) := En.under (ws := [x]) (rs := [sx]) E4 rfl
    refine o Hd2 H2 σ ρ2 (y :: vs) (.da d :: ss) x y sx (.da d) _ _ E5 (fun s v Hd3 H3 q3 E6 => ?_) q2
    split at q3
    · rename_i kk
      cases dp_bl E6.top
      refine ⟨kk, rfl, ?_⟩
      cases kk with
      | true =>
        rw [if_pos rfl]
        exact ⟨Hd3, ρ2, _, _, _, E6.drop, fun sz ρ3 z Hd4 H4 q4 E7 => o' Hd4 H4 σ ρ3 vs ss y z (.da d) sz Q _ E7 (fun s' v' Hd' H' q5 E8 => k s' ρ3 v' Hd' H' q5 E8) q4, q3⟩
      | false =>
        rw [if_neg Bool.false_ne_true]
        exact k _ ρ2 _ Hd3 H3 q3 (E6.drop.drop.push (.bl false))
    · exact q3.elim
  | _ => exact q2.elim
theorem q_chain {r r' : R2} {g g' : Sl → Sl → (Sl → Prop) → Prop} (o : DOp C r g) (o' : DOp C r' g') (h : PE X e (tChain r r' (LE C ta) (LE C tb) (LE C tc))) : PE X e (LE C (dChain g g' ta tb tc)) := imp_e h fun σ H Q q => chain_le o o' q
theorem t_chain {r r' : R2} {g g' : Sl → Sl → (Sl → Prop) → Prop} (o : DOp C r g) (o' : DOp C r' g') (h : PT X e (tTest (tChain r r' (LE C ta) (LE C tb) (LE C tc)))) : PT X e (LT C (dTst (dChain g g' ta tb tc))) := imp_t h fun σ H Q q => chain_le o o' (tst_le q)
/-! ### and, or, not -/
def dAnd (t u : TDT) : TDT := fun ρ Q => t ρ fun b ρ1 => cnd b (u ρ1 Q) (Q false ρ1)
def dOr (t u : TDT) : TDT := fun ρ Q => t ρ fun b ρ1 => cnd b (Q true ρ1) (u ρ1 Q)
def dNot (t : TDT) : TDT := fun ρ Q => t ρ fun b ρ1 => Q (!b) ρ1
theorem imp_w {X : Cx} {e : Expr} {t t' : TT} (h : PW X e t) (k : ∀ σ H Q, t' σ H Q → t σ H Q) : PW X e t' := ⟨fun wh pins s σ H Q I q => h.run wh pins s σ H Q I (k σ H Q q)⟩
variable {rest : List Expr} {pos : Pos}
theorem w_and1 (h : PT X a (LT C t)) : PW X (.BoolOp .And [a] pos) (LT C t) := pw_and1 h
theorem w_or1 (h : PT X a (LT C t)) : PW X (.BoolOp .Or [a] pos) (LT C t) := pw_or1 h
theorem w_and (h : PT X a (LT C t)) (h2 : PW X (.BoolOp .And (b :: rest) pos) (LT C u)) : PW X (.BoolOp .And (a :: b :: rest) pos) (LT C (dAnd t u)) := imp_w (pw_and h h2) fun σ H Q ⟨Hd, ρ, vs, ss, Qd, E, k, q⟩ =>
  ⟨Hd, ρ, vs, ss, _, E, fun b ρ1 Hd1 H1 q1 E1 => by
    cases b with
    | true => rw [if_pos rfl]; exact ⟨Hd1, ρ1, vs, ss, Qd, E1, k, q1⟩
    | false => rw [if_neg Bool.false_ne_true]; exact k _ _ _ _ q1 E1, q⟩
theorem w_or (h : PT X a (LT C t)) (h2 : PW X (.BoolOp .Or (b :: rest) pos) (LT C u)) : PW X (.BoolOp .Or (a :: b :: rest) pos) (LT C (dOr t u)) := imp_w (pw_or h h2) fun σ H Q ⟨Hd, ρ, vs, ss, Qd, E, k, q⟩ =>
  ⟨Hd, ρ, vs, ss, _, E, fun b ρ1 Hd1 H1 q1 E1 => by
    cases b with
    | true => rw [if_pos rfl]; exact k _ _ _ _ q1 E1
    | false => rw [if_neg Bool.false_ne_true]; exact ⟨Hd1, ρ1, vs, ss, Qd, E1, k, q1⟩, q⟩
theorem t_w (h : PW X e (LT C t)) : PT X e (LT C t) := h.pt
theorem t_not (h : PT X a (LT C t)) : PT X (.UnaryOp .Not a pos) (LT C (dNot t)) := imp_t (pt_not h) fun σ H Q ⟨Hd, ρ, vs, ss, Qd, E, k, q⟩ =>
  ⟨Hd, ρ, vs, ss, _, E, fun b ρ1 Hd1 H1 q1 E1 => k _ _ _ _ q1 E1, q⟩
/-- as values, of bools -/
def dAndV (ta tb : TD) : TD := fun ρ Q => ta ρ fun s ρ1 => match s with
  | .da (.bool k) => cnd k (tb ρ1 Q) (Q (.da (.bool false)) ρ1)
  | _ => False
def dOrV (ta tb : TD) : TD := fun ρ Q => ta ρ fun s ρ1 => match s with
  | .da (.bool k) => cnd k (Q (.da (.bool true)) ρ1) (tb ρ1 Q)
  | _ => False
def dNotV (ta : TD) : TD := fun ρ Q => ta ρ fun s ρ1 => match s with
  | .da (.bool k) => Q (.da (.bool (!k))) ρ1
  | _ => False
theorem q_one {op : BoolOp} (h : PE X a (LE C ta)) : PE X (.BoolOp op [a] pos) (LE C ta) := pe_one h
theorem q_and (ha : PE X a (LE C ta)) (hb : PE X (.BoolOp .And (b :: rest) pos) (LE C tb)) : PE X (.BoolOp .And (a :: b :: rest) pos) (LE C (dAndV ta tb)) := imp_e (pe_and ha hb) fun σ H Q ⟨Hd, ρ, vs, ss, Qd, E, k, q⟩ =>
  ⟨Hd, ρ, vs, ss, _, E, fun s ρ1 v Hd1 H1 q1 E1 => by
    split at q1
    · rename_i kk
      cases dp_bl E1.top
      refine ⟨kk, rfl, ?_⟩
      cases kk with
      | true => rw [if_pos rfl]; exact ⟨Hd1, ρ1, vs, ss, Qd, E1.drop, k, q1⟩
      | false => rw [if_neg Bool.false_ne_true]; exact k _ _ _ _ _ q1 (E1.drop.push (.bl false))
    · exact q1.elim, q⟩
theorem q_or (ha : PE X a (LE C ta)) (hb : PE X (.BoolOp .Or (b :: rest) pos) (LE C tb)) : PE X (.BoolOp .Or (a :: b :: rest) pos) (LE C (dOrV ta tb)) := imp_e (pe_or ha hb) fun σ H Q ⟨Hd, ρ, vs, ss, Qd, E, k, q⟩ =>
  ⟨Hd, ρ, vs, ss, _, E, fun s ρ1 v Hd1 H1 q1 E1 => by
    split at q1
    · rename_i kk
      cases dp_bl E1.top
      refine ⟨kk, rfl, ?_⟩
      cases kk with
      | true => rw [if_pos rfl]; exact k _ _ _ _ _ q1 (E1.drop.push (.bl true))
      | false => rw [if_neg Bool.false_ne_true]; exact ⟨Hd1, ρ1, vs, ss, Qd, E1.drop, k, q1⟩
    · exact q1.elim, q⟩
theorem q_not (ha : PE X a (LE C ta)) : PE X (.UnaryOp .Not a pos) (LE C (dNotV ta)) := imp_e (pe_not ha) fun σ H Q ⟨Hd, ρ, vs, ss, Qd, E, k, q⟩ =>
  ⟨Hd, ρ, vs, ss, _, E, fun s ρ1 v Hd1 H1 q1 E1 => by
    split at q1
    · cases dp_bl E1.top
      exact ⟨_, rfl, k _ _ _ _ _ q1 (E1.drop.push (.bl _))⟩
    · exact q1.elim, q⟩
def dNeg (ta : TD) : TD := fun ρ Q => ta ρ fun s ρ1 => match s with
  | .da (.int i) => Q (.da (.int (-i))) ρ1
  | _ => False
theorem q_neg (ha : PE X a (LE C ta)) : PE X (.UnaryOp .USub a pos) (LE C (dNeg ta)) := imp_e (pe_un un_neg ha) fun σ H Q ⟨Hd, ρ, vs, ss, Qd, E, k, q⟩ =>
  ⟨Hd, ρ, vs, ss, _, E, fun s ρ1 v Hd1 H1 q1 E1 => by
    split at q1
    · cases dp_int E1.top
      exact ⟨_, rfl, k _ _ _ _ _ q1 (E1.drop.push (.int _))⟩
    · exact q1.elim, q⟩
def dIf (t : TDT) (ta tb : TD) : TD := fun ρ Q => t ρ fun b ρ1 => cnd b (ta ρ1 Q) (tb ρ1 Q)
theorem q_if (hc : PT X c (LT C t)) (ha : PE X a (LE C ta)) (hb : PE X b (LE C tb)) : PE X (.IfExp c a b pos) (LE C (dIf t ta tb)) := imp_e (pe_ifExp hc ha hb) fun σ H Q ⟨Hd, ρ, vs, ss, Qd, E, k, q⟩ =>
  ⟨Hd, ρ, vs, ss, _, E, fun b ρ1 Hd1 H1 q1 E1 => by
    cases b with
    | true => rw [if_pos rfl]; exact ⟨Hd1, ρ1, vs, ss, Qd, E1, k, q1⟩
    | false => rw [if_neg Bool.false_ne_true]; exact ⟨Hd1, ρ1, vs, ss, Qd, E1, k, q1⟩, q⟩
/-! ### slices -/
abbrev TDO := Rho → (Option Int → Rho → Prop) → Prop
def LO (C : DC) (t : TDO) : TO := fun σ H Q => ∃ Hd ρ vs ss Qd, En C Hd H σ ρ vs ss ∧ (∀ o ρ' Hd' H', Qd o ρ' → En C Hd' H' σ ρ' vs ss → Q o H') ∧ t ρ Qd
def dNo : TDO := fun ρ Q => Q none ρ
def dPart (t : TD) : TDO := fun ρ Q => t ρ fun s ρ1 => match s with
  | .da (.int i) => Q (some i) ρ1
  | _ => False
theorem imp_o {e : Option Expr} {t t' : TO} (h : PO X e t) (k : ∀ σ H Q, t' σ H Q → t σ H Q) : PO X e t' := ⟨fun pins s σ H Q I q => h.run pins s σ H Q I (k σ H Q q)⟩
theorem po_n : PO X none (LO C dNo) := imp_o po_none fun σ H Q ⟨Hd, ρ, vs, ss, Qd, E, k, q⟩ => k _ _ _ _ q E
theorem po_s (h : PE X e (LE C te)) : PO X (some e) (LO C (dPart te)) := imp_o (po_some h) fun σ H Q ⟨Hd, ρ, vs, ss, Qd, E, k, q⟩ =>
  ⟨Hd, ρ, vs, ss, _, E, fun s ρ1 v Hd1 H1 q1 E1 => by
    split at q1
    · cases dp_int E1.top
      exact ⟨_, rfl, k _ _ _ _ q1 E1.drop⟩
    · exact q1.elim, q⟩
/-- the items of xs[lo:hi] -/
def cutD (xs : List D) (lo hi : Option Int) : List D := (xs.drop (HT.sIx xs.length 0 lo)).take (HT.sIx xs.length xs.length hi - HT.sIx xs.length 0 lo)
theorem DqAll.cut {K : PySem.W.Frag} {H : Hp} {vs : List V} {ds : List D} (h : DqAll K H vs ds) (lo hi : Option Int) : DqAll K H (cutV vs lo hi) (cutD ds lo hi) := by
  unfold cutV cutD
  rw [h.length]
  exact (h.drop _).take _
def slD (d : D) (lo hi : Option Int) (Q : Sl → Prop) : Prop := match d with
  | .tuple ds => Q (.da (.tuple (cutD ds lo hi)))
  | .list ds => Q (.ow (.l (cutD ds lo hi)))
  | _ => False
def dSl (te : TD) (tl th : TDO) : TD := fun ρ Q => te ρ fun s ρ1 => match s.toD with
  | some d => tl ρ1 fun lo ρ2 => th ρ2 fun hi ρ3 => slD d lo hi fun s => Q s ρ3
  | none => False
abbrev rSlU (K : PySem.W.Frag) : V → Option Int → Option Int → Hp → VK → Prop := fun x lo hi H Q => rSlA K x lo hi H Q ∨ rSlL K x lo hi H Q
theorem sl_u : L2.SlR X (rSlU X.K) := sl_tupA.or sl_list
theorem cutD_all {ds : List D} {lo hi : Option Int} (h : HT.sIx ds.length 0 lo = 0 ∧ HT.sIx ds.length ds.length hi = ds.length) : cutD ds lo hi = ds := by
  unfold cutD
  rw [h.1, h.2]
  simp
theorem q_sl {lo hi : Option Expr} {tl th : TDO} {p2 : Pos} (hK : C.K = X.K) (h : PE X e (LE C te)) (hl : PO X lo (LO C tl)) (hh : PO X hi (LO C th)) : PE X (.Subscript e (.Slice lo hi none p2) pos) (LE C (dSl te tl th)) :=
  imp_e (pe_slice sl_u h hl hh) fun σ H Q ⟨Hd, ρ, vs, ss, Qd, E, k, q⟩ =>
  ⟨Hd, ρ, vs, ss, _, E, fun s ρ1 v Hd1 H1 q1 E1 => by
    cases es : s.toD with
    | none => rw [es] at q1; exact q1.elim
    | some d =>
      rw [es] at q1
      obtain ⟨Hd2, _, E2⟩ := E1.fz es
      refine ⟨Hd2, ρ1, v :: vs, .da d :: ss, _, E2, fun o ρ2 Hd3 H3 q3 E3 => ⟨Hd3, ρ2, v :: vs, .da d :: ss, _, E3, fun o' ρ3 Hd4 H4 q4 E4 => ?_, q3⟩, q1⟩
      have h1 := E4.top
      unfold slD at q4
      split at q4
      · obtain ⟨p, xs, rfl, hx, ax⟩ := dp_tup h1
        refine .inl ⟨p, xs, rfl, hK ▸ E4.sub.seqT hx, fun z => ?_, fun _ p' np => k _ _ _ _ _ q4 (E4.drop.newT np (ax.cut _ _))⟩
        rw [ax.length] at z
        rw [cutD_all z] at q4
        exact k _ _ _ _ _ q4 (E4.drop.push h1)
      · obtain ⟨p, xs, rfl, hx, ax⟩ := dp_lst h1
        exact .inr ⟨p, xs, rfl, .inl (E4.sub.rd hx), fun p' np => k _ _ _ _ _ q4 (E4.drop.newL np (ax.cut _ _))⟩
      · exact q4.elim, q⟩
end
end DL

-- DL6
set_option autoImplicit true
namespace DL
open PySem PySem.Spec PyProof.Rows L2
section
variable {C : DC} {Hd Hd' H H' : Hp} {σ : L2.St} {ρ : Rho} {vs ws : List V} {ss rs : List Sl} {v : V} {s : Sl}
theorem En.over (E : En C Hd H σ ρ (v :: (ws ++ vs)) (s :: (rs ++ ss))) (l : ws.length = rs.length) : En C Hd H σ ρ (ws ++ v :: vs) (rs ++ s :: ss) := by
  obtain ⟨_, g, ⟨f1, f2, rfl, q1, q2⟩, h3, h4, h5⟩ := E.sep
  have q2' : Ls C Hd H ((ws ++ vs).map some) (rs ++ ss) f2 := q2
  rw [List.map_append] at q2'
  obtain ⟨f3, f4, rfl, q3, q4⟩ := q2'.split (by simpa using l)
  refine ⟨E.keep, E.there, E.ext, E.new, E.sub, E.tabs, f3 ++ (f1 ++ f4), g, ?_, h3, fun a => ?_, fun a ha => h5 a ?_⟩
  · rw [List.map_append]; exact q3.append ⟨f1, f4, rfl, q1, q4⟩
  · have := h4 a; simp only [List.count_append] at this ⊢; omega
  · simp only [List.mem_append] at ha ⊢; rcases ha with (ha | ha | ha) | ha <;> simp [ha]
theorem En.dropN : ∀ {ws : List V} {rs : List Sl}, En C Hd H σ ρ (ws ++ vs) (rs ++ ss) → ws.length = rs.length → En C Hd H σ ρ vs ss
  | [], [], E, _ => E
  | w :: ws, r :: rs, E, l => En.dropN (ws := ws) (rs := rs) (En.drop (v := w) (s := r) E) (by simpa using l)
  | [], _ :: _, _, l => by simp at l
  | _ :: _, [], _, l => by simp at l
theorem En.dropU (E : En C Hd H σ ρ (v :: (ws ++ vs)) (s :: (rs ++ ss))) (l : ws.length = rs.length) : En C Hd H σ ρ (v :: vs) (s :: ss) := (E.over l).dropN l
/-- items of data wait -/
theorem En.pushes : ∀ {xs : List V} {ds : List D}, En C Hd H σ ρ vs ss → DqAll C.K Hd xs ds → En C Hd H σ ρ (xs ++ vs) (ds.map Sl.da ++ ss)
  | _, _, E, .nil => E
  | _, _, E, .cons h t => (En.pushes E t).push h
end

/-! ### targets -/
abbrev TDG := Sl → Rho → (Rho → Prop) → Prop
abbrev TDGs := List Sl → Rho → (Rho → Prop) → Prop
/-- outside the slots at is nothing changes -/
def Out (is : List Nat) (σ σ' : L2.St) : Prop := σ'.length = σ.length ∧ ∀ j, j ∉ is → σ'[j]? = σ[j]?
theorem Out.refl (is : List Nat) (σ : L2.St) : Out is σ σ := ⟨rfl, fun _ _ => rfl⟩
theorem Out.trans {is js : List Nat} {σ σ1 σ2 : L2.St} (a : Out is σ σ1) (b : Out js σ1 σ2) : Out (is ++ js) σ σ2 := ⟨b.1.trans a.1, fun j hj => by
  rw [List.mem_append] at hj
  exact (b.2 j fun z => hj (.inr z)).trans (a.2 j fun z => hj (.inl z))⟩
theorem Out.set {i : Nat} {σ : L2.St} {v : Option V} : Out [i] σ (σ.set i v) := ⟨by simp, fun j hj => List.getElem?_set_ne (by intro z; subst z; simp at hj)⟩
def LG (C : DC) (is : List Nat) (t : TDG) : TG := fun v σ H Q => ∃ Hd ρ vs ss s Qd, En C Hd H σ ρ (v :: vs) (s :: ss) ∧ (∀ ρ' σ' Hd' H', Qd ρ' → Out is σ σ' → En C Hd' H' σ' ρ' vs ss → Q σ' H') ∧ t s ρ Qd
def LGs (C : DC) (is : List Nat) (t : TDGs) : TGs := fun ws σ H Q => ∃ Hd ρ vs ss rs Qd, En C Hd H σ ρ (ws ++ vs) (rs ++ ss) ∧ ws.length = rs.length ∧ (∀ ρ' σ' Hd' H', Qd ρ' → Out is σ σ' → En C Hd' H' σ' ρ' vs ss → Q σ' H') ∧ t rs ρ Qd
theorem imp_g {X : Cx} {e : Expr} {t t' : TG} (h : PG X e t) (k : ∀ v σ H Q, t' v σ H Q → t v σ H Q) : PG X e t' := ⟨fun pins s σ H v u Q I r q => h.run pins s σ H v u Q I r (k v σ H Q q)⟩
theorem imp_gs {X : Cx} {e : List Expr} {t t' : TGs} (h : PGs X e t) (k : ∀ v σ H Q, t' v σ H Q → t v σ H Q) : PGs X e t' := ⟨fun pins s σ H v u Q I r q => h.run pins s σ H v u Q I r (k v σ H Q q)⟩
theorem PG.or {X : Cx} {e : Expr} {t t' : TG} (h : PG X e t) (h' : PG X e t') : PG X e (fun v σ H Q => t v σ H Q ∨ t' v σ H Q) := ⟨fun pins s σ H v u Q I r q => by
  rcases q with q | q
  · exact h.run pins s σ H v u Q I r q
  · exact h'.run pins s σ H v u Q I r q⟩
def dgName (i : Nat) : TDG := fun s ρ Q => match ρ[i]? with
  | some _ => Q (ρ.set i s)
  | none => False
def dgNil : TDGs := fun rs ρ Q => match rs with
  | [] => Q ρ
  | _ => False
def dgCons (t : TDG) (u : TDGs) : TDGs := fun rs ρ Q => match rs with
  | s :: r => t s ρ fun ρ' => u r ρ' Q
  | [] => False
def dgTup (n : Nat) (t : TDGs) : TDG := fun s ρ Q => match s.toD with
  | some (.tuple ds) => cnd (Nat.beq ds.length n) (t (ds.map Sl.da) ρ Q) False
  | some (.list ds) => cnd (Nat.beq ds.length n) (t (ds.map Sl.da) ρ Q) False
  | _ => False
section
variable {X : Cx} {C : DC} {e : Expr} {es : List Expr} {pos : Pos}
theorem name_le {i : Nat} {v : V} {σ : L2.St} {H : Hp} {Q : L2.St → Hp → Prop} (h : LG C [i] (dgName i) v σ H Q) : gName i v σ H Q := by
  obtain ⟨Hd, ρ, vs, ss, s, Qd, E, k, q⟩ := h
  unfold dgName at q
  cases e : ρ[i]? with
  | none => rw [e] at q; exact q.elim
  | some r =>
    rw [e] at q
    exact k _ _ Hd H q Out.set (E.put (List.getElem?_eq_some_iff.mp e).1)
theorem g_name {i : Nat} (h : PG X e (gName i)) : PG X e (LG C [i] (dgName i)) := imp_g h fun v σ H Q q => name_le q
theorem g_nil : PGs X [] (LGs C [] dgNil) := imp_gs pgs_nil fun ws σ H Q ⟨Hd, ρ, vs, ss, rs, Qd, E, l, k, q⟩ => by
  cases rs with
  | nil => cases ws with
    | nil => exact ⟨rfl, k _ _ _ _ q (Out.refl _ _) E⟩
    | cons _ _ => simp at l
  | cons _ _ => exact q.elim
theorem g_cons {t : TDG} {u : TDGs} {is js : List Nat} (h1 : PG X e (LG C is t)) (h2 : PGs X es (LGs C js u)) (hs : (assignEach (e :: es) X.env).map (·.2) = assign e X.env :: (assignEach es X.env).map (·.2) := by rfl) : PGs X (e :: es) (LGs C (is ++ js) (dgCons t u)) :=
  imp_gs (pgs_cons h1 h2 hs) fun ws σ H Q ⟨Hd, ρ, vs, ss, rs, Qd, E, l, k, q⟩ => by
    cases rs with
    | nil => exact q.elim
    | cons s rs => cases ws with
      | nil => simp at l
      | cons w ws => exact ⟨w, ws, rfl, Hd, ρ, ws ++ vs, rs ++ ss, s, _, E, fun ρ' σ' Hd' H' q' o1 E' => ⟨Hd', ρ', vs, ss, rs, Qd, E', by simpa using l, fun ρ2 σ2 Hd2 H2 q2 o2 E2 => k ρ2 σ2 Hd2 H2 q2 (o1.trans o2) E2, q'⟩, q⟩
theorem g_tup {k : Nat} {t : TDGs} {n : Nat} {is : List Nat} (hK : C.K = X.K) (hc : X.calm = true) (h : PGs X es (LGs C is t)) (hn : (assignEach es X.env).length = n := by rfl) (hst : (assignEach es X.env).findIdx? (·.1) = none := by rfl) :
    PG X (.Tuple es k pos) (LG C is (dgTup n t)) := imp_g (PG.or (pg_tup hc h hn hst) (pg_unl hc h hn hst)) fun v σ H Q ⟨Hd, ρ, vs, ss, s, Qd, E, kk, q⟩ => by
  unfold dgTup at q
  split at q
  · rename_i ds e1
    obtain ⟨hl, q⟩ := cnd_inv q
    obtain ⟨Hd1, _, E1⟩ := E.fz e1
    obtain ⟨a, xs, rfl, hx, ax⟩ := dp_tup E1.top
    exact .inl ⟨a, xs, rfl, hK ▸ E1.sub.seqT hx, by rw [ax.length]; exact Nat.eq_of_beq_eq_true hl, Hd1, ρ, vs, ss, _, Qd, E1.drop.pushes ax, by simp [ax.length], kk, q⟩
  · rename_i ds e1
    obtain ⟨hl, q⟩ := cnd_inv q
    obtain ⟨Hd1, _, E1⟩ := E.fz e1
    obtain ⟨a, xs, rfl, hx, ax⟩ := dp_lst E1.top
    exact .inr ⟨a, xs, rfl, .inl (E1.sub.rd hx), by rw [ax.length]; exact Nat.eq_of_beq_eq_true hl, Hd1, ρ, vs, ss, _, Qd, E1.drop.pushes ax, by simp [ax.length], kk, q⟩
  · exact q.elim
end

/-! ### what is walked -/
abbrev TDI := Rho → (List Sl → Rho → Prop) → Prop
/-- J yields the items, while pv waits -/
def Yl (C : DC) (J : It) (its : List Sl) (pv : List V) (ps : List Sl) : Prop := ∀ (Hd H : Hp) (σ : L2.St) (ρ : Rho) (vs : List V) (ss : List Sl) (i : Nat), En C Hd H σ ρ (pv ++ vs) (ps ++ ss) →
  (its.length ≤ i → J.stop i H) ∧ ∀ s, its[i]? = some s → J.go i H ∧ ∀ x H', J.yld i H x H' → ∃ Hd', En C Hd' H' σ ρ (x :: (pv ++ vs)) (s :: (ps ++ ss))
def LI (C : DC) (t : TDI) : TI := fun σ H R => ∃ Hd ρ vs ss Rd, En C Hd H σ ρ vs ss ∧ (∀ its ρ' J pv ps Hd' H', Rd its ρ' → pv.length = ps.length → En C Hd' H' σ ρ' (pv ++ vs) (ps ++ ss) → Yl C J its pv ps → R J H') ∧ t ρ Rd
theorem imp_i {X : Cx} {tg e : Expr} {t t' : TI} (h : PI X tg e t) (k : ∀ σ H Q, t' σ H Q → t σ H Q) : PI X tg e t' := ⟨fun pins s σ H Q I q => h.run pins s σ H Q I (k σ H Q q)⟩
def rgS (lo : Int) (n : Nat) : List Sl := (List.range n).map fun k => Sl.da (.int (lo + (k : Nat)))
def enS : Nat → List D → List Sl
  | _, [] => []
  | k, d :: ds => .da (.tuple [.int (k : Nat), d]) :: enS (k + 1) ds
theorem enS_length : ∀ (ds : List D) (k : Nat), (enS k ds).length = ds.length
  | [], _ => rfl
  | d :: ds, k => by simp [enS, enS_length ds]
theorem enS_get : ∀ (ds : List D) (k i : Nat), (enS k ds)[i]? = ds[i]?.map fun d => Sl.da (.tuple [.int ((k + i : Nat) : Int), d])
  | [], _, _ => by simp [enS]
  | d :: ds, k, 0 => by simp [enS]
  | d :: ds, k, i + 1 => by
    simp only [enS, List.getElem?_cons_succ]
    rw [enS_get ds (k + 1) i, show k + 1 + i = k + (i + 1) by omega]
def zipS : List D → List D → List Sl
  | x :: xs, y :: ys => .da (.tuple [x, y]) :: zipS xs ys
  | _, _ => []
section
variable {X : Cx} {C : DC} {e tg : Expr} {te : TD}
theorem yl_list {J : It} {p : Addr} {ds : List D} (hJ : J = Itl C.K p) : Yl C J (ds.map Sl.da) [.ref p] [.da (.list ds)] := fun Hd H σ ρ vs ss i E => by
  subst hJ
  have E' : En C Hd H σ ρ (.ref p :: vs) (.da (.list ds) :: ss) := E
  obtain ⟨a, xs, e1, hx, ax⟩ := dp_lst E'.top
  cases e1
  refine ⟨fun h => ⟨xs, .inl (E.sub.rd hx), by rw [ax.length]; simpa using h⟩, fun s hs => ?_⟩
  rw [List.getElem?_map] at hs
  cases hd : ds[i]? with
  | none => rw [hd] at hs; cases hs
  | some d =>
    rw [hd] at hs
    cases hs
    obtain ⟨v, hv, dv⟩ := ax.get hd
    refine ⟨⟨xs, v, .inl (E.sub.rd hx), hv⟩, fun x H' ⟨e1, y⟩ => ?_⟩
    subst e1
    have e2 := y xs (.inl (E.sub.rd hx))
    rw [hv] at e2
    cases e2
    exact ⟨Hd, E.push dv⟩
theorem yl_tup {J : It} {p : Addr} {ds : List D} (hJ : J = Itt C.K p) : Yl C J (ds.map Sl.da) [.ref p] [.da (.tuple ds)] := fun Hd H σ ρ vs ss i E => by
  subst hJ
  have E' : En C Hd H σ ρ (.ref p :: vs) (.da (.tuple ds) :: ss) := E
  obtain ⟨a, xs, e1, hx, ax⟩ := dp_tup E'.top
  cases e1
  refine ⟨fun h => ⟨xs, E.sub.seqT hx, by rw [ax.length]; simpa using h⟩, fun s hs => ?_⟩
  rw [List.getElem?_map] at hs
  cases hd : ds[i]? with
  | none => rw [hd] at hs; cases hs
  | some d =>
    rw [hd] at hs
    cases hs
    obtain ⟨v, hv, dv⟩ := ax.get hd
    refine ⟨⟨xs, v, E.sub.seqT hx, hv⟩, fun x H' ⟨e1, y⟩ => ?_⟩
    subst e1
    have e2 := y xs (E.sub.seqT hx)
    rw [hv] at e2
    cases e2
    exact ⟨Hd, E.push dv⟩
theorem yl_raw {J : It} {p : Addr} {xs : List V} (hJ : J = Itt C.K p) : Yl C J (xs.map Sl.va) [.ref p] [.vs xs] := fun Hd H σ ρ vs ss i E => by
  subst hJ
  have E' : En C Hd H σ ρ (.ref p :: vs) (.vs xs :: ss) := E
  obtain ⟨a, e1, hx⟩ := E'.topVs
  cases e1
  refine ⟨fun h => ⟨xs, E.sub.seqT hx, by simpa using h⟩, fun s hs => ?_⟩
  rw [List.getElem?_map] at hs
  cases hd : xs[i]? with
  | none => rw [hd] at hs; cases hs
  | some d =>
    rw [hd] at hs
    cases hs
    refine ⟨⟨xs, d, E.sub.seqT hx, hd⟩, fun x H' ⟨e1, y⟩ => ?_⟩
    subst e1
    have e2 := y xs (E.sub.seqT hx)
    rw [hd] at e2
    cases e2
    exact ⟨Hd, E.pushV⟩
/-- a list or a tuple -/
def iSeq (K : PySem.W.Frag) (tl : TE) : TI := fun σ H R => tl σ H fun x H1 => (∃ a, x = .ref a ∧ (∃ xs, SqL K H1 a xs) ∧ R (Itl K a) H1) ∨ (∃ a, x = .ref a ∧ (∃ xs, SqT K H1 a xs) ∧ R (Itt K a) H1)
theorem pi_seq {l : Expr} {tl : TE} (hl : PE X l tl) : PI X tg l (iSeq X.K tl) := by
  refine ⟨fun pins s σ H R I h => ?_⟩
  refine thn (hl.run pins s σ H _ I h) fun v s1 ⟨x, H1, I1, r1, q1⟩ => ?_
  rcases q1 with ⟨a, e, ⟨xs, hq⟩, q⟩ | ⟨a, e, ⟨xs, hq⟩, q⟩ <;> subst e <;> cases r1
  · obtain ⟨its, rv, p, hz⟩ := I1.list hq
    refine wpAny_pyIter_list p.isList ?_
    refine ⟨s1.heap.objs.size, [s1.heap.objs.size], _, _, H1, rfl, I1.kept (t' := s1.toks) fun b o e => Heap.get?_push_of_some _ e, turn_list a _, ⟨_, Heap.get?_push_size _ rfl, rfl, rfl⟩, fun b hb => ?_, q⟩
    have e : b = s1.heap.objs.size := by simpa using hb
    subst e
    exact I1.fpOk (Nat.le_refl _) (I1.hok.fresh (Nat.le_refl _))
  · obtain ⟨its, rv, p, hz⟩ := I1.tuple hq
    refine wpAny_pyIter_tuple (show s1.heap.IsTuple a its.toArray from p) ?_
    refine ⟨s1.heap.objs.size, [s1.heap.objs.size], _, _, H1, rfl, I1.kept (t' := s1.toks) fun b o e => Heap.get?_push_of_some _ e, turn_tuple a _, ⟨_, Heap.get?_push_size _ rfl, rfl, rfl⟩, fun b hb => ?_, q⟩
    have e : b = s1.heap.objs.size := by simpa using hb
    subst e
    exact I1.fpOk (Nat.le_refl _) (I1.hok.fresh (Nat.le_refl _))
def seqS (s : Sl) (Q : List Sl → Prop) : Prop := match s with
  | .vs xs => Q (xs.map Sl.va)
  | .da (.list ds) => Q (ds.map Sl.da)
  | .da (.tuple ds) => Q (ds.map Sl.da)
  | .ow o => match o.fr with
    | some (.list ds) => Q (ds.map Sl.da)
    | _ => False
  | _ => False
def dSeq (te : TD) : TDI := fun ρ Q => te ρ fun s ρ1 => seqS s fun its => Q its ρ1
theorem i_seq (hK : C.K = X.K) (h : PE X e (LE C te)) : PI X tg e (LI C (dSeq te)) := imp_i (pi_seq h) fun σ H R ⟨Hd, ρ, vs, ss, Rd, E, k, q⟩ =>
  ⟨Hd, ρ, vs, ss, _, E, fun s ρ1 v Hd1 H1 q1 E1 => by
    have lst : ∀ {ds : List D} {Hd2 : Hp}, Rd (ds.map Sl.da) ρ1 → En C Hd2 H1 σ ρ1 (v :: vs) (.da (.list ds) :: ss) → (∃ a, v = .ref a ∧ (∃ xs, SqL X.K H1 a xs) ∧ R (Itl X.K a) H1) ∨ (∃ a, v = .ref a ∧ (∃ xs, SqT X.K H1 a xs) ∧ R (Itt X.K a) H1) := fun {ds Hd2} q2 E2 => by
      obtain ⟨a, xs, rfl, hx, ax⟩ := dp_lst E2.top
      exact .inl ⟨a, rfl, ⟨xs, .inl (E2.sub.rd hx)⟩, k _ ρ1 _ [.ref a] [.da (.list ds)] Hd2 H1 q2 rfl E2 (yl_list (by rw [hK]))⟩
    unfold seqS at q1
    split at q1
    · obtain ⟨a, rfl, hx⟩ := E1.topVs
      exact .inr ⟨a, rfl, ⟨_, hK ▸ E1.sub.seqT hx⟩, k _ ρ1 _ [.ref a] [.vs _] Hd1 H1 q1 rfl E1 (yl_raw (by rw [hK]))⟩
    · exact lst q1 E1
    · obtain ⟨a, xs, rfl, hx, ax⟩ := dp_tup E1.top
      exact .inr ⟨a, rfl, ⟨xs, hK ▸ E1.sub.seqT hx⟩, k _ ρ1 _ [.ref a] [.da (.tuple _)] Hd1 H1 q1 rfl E1 (yl_tup (by rw [hK]))⟩
    · split at q1
      · rename_i ho
        obtain ⟨Hd2, _, E2⟩ := E1.fz ho
        exact lst q1 E2
      · exact q1.elim
    · exact q1.elim, q⟩
/-- ranges -/
theorem yl_rng {lo : Int} {n : Nat} : Yl C (Itr lo n) (rgS lo n) [] [] := fun Hd H σ ρ vs ss i E => by
  refine ⟨fun h => by show n ≤ i; simpa [rgS] using h, fun s hs => ?_⟩
  unfold rgS at hs
  rw [List.getElem?_map] at hs
  by_cases hi : i < n
  · rw [List.getElem?_range hi] at hs
    cases hs
    refine ⟨hi, fun x H' ⟨e1, e2⟩ => ?_⟩
    subst e1 e2
    exact ⟨Hd, E.push (.int _)⟩
  · rw [List.getElem?_eq_none (by simp; omega)] at hs
    cases hs
/-- a bound that range takes -/
def rgB (j : Int) : Bool := Nat.ble j.natAbs 4611686018427387903
theorem rgB_inv {j : Int} (h : rgB j = true) : -(2 ^ 62) ≤ j ∧ j < 2 ^ 62 := by
  have := Nat.ble_eq.mp h
  omega
theorem ble_t {a b : Nat} (h : a ≤ b) : Nat.ble a b = true := Nat.ble_eq.mpr h
theorem cnd_at' {b : Bool} {A : Prop} (h : cnd b A False) : b = true ∧ A := by
  cases b with
  | true => exact ⟨rfl, h⟩
  | false => exact h.elim
def rng1S (rs : List Sl) (Q : List Sl → Prop) : Prop := match rs with
  | [.da (.int j)] => cnd (rgB j) (Q (rgS 0 j.toNat)) False
  | _ => False
def rng2S (rs : List Sl) (Q : List Sl → Prop) : Prop := match rs with
  | [.da (.int i), .da (.int j)] => cnd (rgB i) (cnd (rgB j) (Q (rgS i (j - i).toNat)) False) False
  | _ => False
/-- what is walked, by arguments -/
def dIt (g : List Sl → (List Sl → Prop) → Prop) (ta : TDA) : TDI := fun ρ Q => ta ρ fun rs ρ1 => g rs fun its => Q its ρ1
theorem i_rng1 {ta : TDA} (h : PI X tg e (iRng1 (LA C ta))) : PI X tg e (LI C (dIt rng1S ta)) := imp_i h fun σ H R ⟨Hd, ρ, vs, ss, Rd, E, k, q⟩ =>
  ⟨Hd, ρ, vs, ss, _, E, fun rs ρ1 ws Hd1 H1 q1 l E1 => by
    unfold rng1S at q1
    split at q1
    · match ws, l with
      | [w], _ =>
        have E' : En C Hd1 H1 σ ρ1 (w :: vs) (.da (.int _) :: ss) := E1
        cases dp_int E'.top
        obtain ⟨b1, q1⟩ := cnd_at' q1
        exact ⟨_, rfl, (rgB_inv b1).1, (rgB_inv b1).2, k _ ρ1 _ [] [] Hd1 H1 q1 rfl E'.drop yl_rng⟩
    · exact q1.elim, q⟩
theorem i_rng2 {ta : TDA} (h : PI X tg e (iRng2 (LA C ta))) : PI X tg e (LI C (dIt rng2S ta)) := imp_i h fun σ H R ⟨Hd, ρ, vs, ss, Rd, E, k, q⟩ =>
  ⟨Hd, ρ, vs, ss, _, E, fun rs ρ1 ws Hd1 H1 q1 l E1 => by
    unfold rng2S at q1
    split at q1
    · match ws, l with
      | [w, w'], _ =>
        have E' : En C Hd1 H1 σ ρ1 (w :: w' :: vs) (.da (.int _) :: .da (.int _) :: ss) := E1
        cases dp_int E'.top
        cases dp_int E'.drop.top
        obtain ⟨b1, q1⟩ := cnd_at' q1
        obtain ⟨b2, q1⟩ := cnd_at' q1
        exact ⟨_, _, rfl, ⟨(rgB_inv b1).1, (rgB_inv b1).2, (rgB_inv b2).1, (rgB_inv b2).2⟩, k _ ρ1 _ [] [] Hd1 H1 q1 rfl E'.drop.drop yl_rng⟩
    · exact q1.elim, q⟩
/-- enumerate(list) -/
theorem yl_enum {p : Addr} {ds : List D} : Yl C (Ite C.K p) (enS 0 ds) [.ref p] [.da (.list ds)] := fun Hd H σ ρ vs ss i E => by
  have E' : En C Hd H σ ρ (.ref p :: vs) (.da (.list ds) :: ss) := E
  obtain ⟨a, xs, e1, hx, ax⟩ := dp_lst E'.top
  cases e1
  refine ⟨fun h => ⟨xs, .inl (E.sub.rd hx), by rw [ax.length]; simpa [enS_length] using h⟩, fun s hs => ?_⟩
  rw [enS_get] at hs
  cases hd : ds[i]? with
  | none => rw [hd] at hs; cases hs
  | some d =>
    rw [hd] at hs
    cases hs
    obtain ⟨v, hv, dv⟩ := ax.get hd
    refine ⟨⟨xs, v, .inl (E.sub.rd hx), hv⟩, fun x H' ⟨T, z, e1, nT, e2, y⟩ => ?_⟩
    subst e1 e2
    have e2 := y xs (.inl (E.sub.rd hx))
    rw [hv] at e2
    cases e2
    refine ⟨_, E.newT nT (ds := [.int ((0 + i : Nat) : Int), d]) (.cons ?_ (.cons dv .nil))⟩
    rw [Nat.zero_add]
    exact .int _
end
end DL

-- DLE
set_option autoImplicit true
/-! enumerate over a tuple -/
namespace PySem
open Sem (wp)
set_option maxHeartbeats 1000000 in
theorem dl_enum_new {v : Value} {o : Obj} {H : Heap → Prop} (B : Begins v o H) :
    Meets (Builtin.«enumerate.__new__» ⟨[.type "enumerate", v], []⟩) (fun _ R s => H s.heap ∧
      R (.ok (.ret (.ref (s.heap.push o).objs.size))) { s with heap := (s.heap.push o).push { cls := .type "enumerate", data := .fields #[.none, .bool false, .ref s.heap.objs.size, rawInt 0, .none, .none] } }) :=
  .of_wp fun prog w A R s h => by
    obtain ⟨hp, g, d, tk, os⟩ := s; obtain ⟨h1, h⟩ := h
    have hs := sub_enumerate
    have go : ∀ {A' : Around} {E : Value → Shared → Prop} {Q : Value → Shared → Prop}, Q (.ref hp.objs.size) ⟨hp.push o, g, d, tk, os⟩ → wpAny (model prog w) A' (pyIter v) Q E ⟨hp, g, d, tk, os⟩ :=
      fun q => B.iter prog w _ _ ⟨hp, g, d, tk, os⟩ _ h1 q
    wp_walk using go
    refine wpAny_stack_any fun st => wpAny_pure ?_
    split
    · rename_i c _ _ _ _ _
      cases (c == Value.type "enumerate") <;> (wp_walk using go; exact ⟨_, rfl, h⟩)
    · wp_walk using go
      exact ⟨_, rfl, h⟩
theorem dl_call_enum {prog : Program} {w : World} {A : Around} {E : Value → Shared → Prop} {s : Shared} {v : Value} {o : Obj} {H : Heap → Prop} {Q : Value → Shared → Prop} (B : Begins v o H) (h1 : H s.heap)
    (h : ∀ h', IsEnum h' (s.heap.objs.size + 1) s.heap.objs.size 0 .none → h'.get? s.heap.objs.size = some o → (∀ b o, s.heap.get? b = some o → h'.get? b = some o) → Q (.ref (s.heap.objs.size + 1)) { s with heap := h' }) :
    wpAny (model prog w) A (call (.type "enumerate") [v]) Q E s := by
  refine callType_new F.called_enumerate (by decide) (F.typeCall_enumerate_1 _) (F.newCall_enumerate_1 _) (fun obj => F.args_object_init_2 obj _) F.entry_enumerate_new (dl_enum_new B) ⟨h1, ?_⟩
  have hz : (s.heap.push o).objs.size = s.heap.objs.size + 1 := Heap.size_push ..
  have he := Heap.get?_push_size (s.heap.push o) (o := { cls := .type "enumerate", data := .fields #[.none, .bool false, .ref s.heap.objs.size, rawInt 0, .none, .none] }) rfl
  rw [hz] at he
  show _ ∧ _
  rw [hz]
  exact ⟨⟨_, he, rfl⟩, h _ he (Heap.get?_push_of_some _ (Heap.get?_push_size _ B.free)) fun b o x => Heap.get?_push_of_some _ (Heap.get?_push_of_some _ x)⟩
theorem dl_enum_end {prog : Program} {w : World} {A : Around} {E : Value → Shared → Prop} {s : Shared} {e it l : Addr} {i : Nat} {items : Array Value} {old : Value} {Q : Option Value → Shared → Prop} (hh : A.handled = none)
    (he : IsEnum s.heap e it i old) (hit : s.heap.IsTupleIter it l i) (hl : s.heap.IsTuple l items) (hx : items[i]? = none) (hQ : ∀ h', Heap.ExtBut it s.heap h' → Q none { s with heap := h' }) : wpAny (model prog w) A (pyNext (.ref e)) Q E s := by
  have hT : s.TypeIs (.ref e) "enumerate" := ⟨_, he, rfl⟩
  unfold pyNext
  refine wpAny_bind (wpAny_attempt (wpAny_callSpecial?_slot (name := Str.ofString "__next__") hT F.slot_enumerate_next (wpAny_call_entry F.slot_enumerate_next hT F.entry_enumerate_next ?_ (F.args_enumerate_next_1 _))))
  show wpAny _ _ (field (.ref e) 2 >>= _) _ _ _
  refine wpAny_bind (wpAny_field he rfl (x := .ref it) rfl (wpAny_bind (wpAny_nextOf_tuple_end hh hit hl hx fun h' x he' ⟨o, ho, hc⟩ => ?_)))
  exact wpAny_bind (wpAny_isInstance (T := "StopIteration") (b := true) ⟨o, ho, hc⟩ isSubtype_stop (wpAny_pure (hQ _ he')))
end PySem
namespace DL
open PySem PySem.Spec PyProof.Rows L2
def Itte (K : PySem.W.Frag) (a : Addr) : It :=
  ⟨fun i H => ∃ (xs : List V) (x : V), SqT K H a xs ∧ xs[i]? = some x, fun i H v H' => ∃ T x, v = .ref T ∧ H T = none ∧ H' = upd H T (.tup [.int (i : Nat), x]) ∧ ∀ xs, SqT K H a xs → xs[i]? = some x, fun i H => ∃ xs : List V, SqT K H a xs ∧ xs.length ≤ i⟩
theorem turn_enumT {P : Program} {w : World} {K : PySem.W.Frag} {elts : List Expr} {kk : Nat} {tpos : Pos} (a e it : Addr) (nai : a ≠ it) (nae : a ≠ e) :
    Turn P w K (.Tuple elts kk tpos) (Itte K a) [e, it] e (fun i h => (∃ old, IsEnum h e it ((i : Nat) : Int) old) ∧ h.IsTupleIter it a i ∧ e ≠ it) where
  mem := by simp
  obj := fun i h st b hb => by
    obtain ⟨⟨old, he⟩, ⟨o, ho, hc, hd⟩, _⟩ := st
    have e' : b = e ∨ b = it := by simpa using hb
    rcases e' with z | z
    · rw [z]; exact ⟨_, he, fun v q => nomatch q⟩
    · rw [z]; exact ⟨o, ho, fun v q => by rw [hd] at q; cases q⟩
  keep := fun i h h' st k => let ⟨⟨old, he⟩, hi, hne⟩ := st; ⟨⟨old, k e (by simp) _ he⟩, hi.at fun o q => k it (by simp) o q, hne⟩
  item := by
    intro X hP hw hK hc i pins s σ H E I hf st hg
    subst hP hw hK
    obtain ⟨⟨old, he⟩, hit, hne⟩ := st
    obtain ⟨xs, x, hq, hx⟩ := hg
    obtain ⟨its, rv, p, hz⟩ := I.tuple hq
    obtain ⟨u, hu, ru⟩ := rv.get hx
    have hel : e < s.heap.objs.size := Heap.lt_size he
    have hil : it < s.heap.objs.size := by obtain ⟨_, q, _⟩ := hit; exact Heap.lt_size q
    have Dr := Draws.tuple (prog := X.prog) (w := X.w) (A := X.A.in1) (I.ok.hd hc) it a nai its.toArray
    have hi : i < its.toArray.size := by
      have := (List.getElem?_eq_some_iff.mp hu).1
      simpa using this
    refine wpAny_pyNext_enum_itemD Dr he ⟨hit, p⟩ hi hne (by simp; exact ⟨hne, fun z => nae z.symm⟩) fun y h' tk hP ho hst hT hsz hk => ?_
    have ey : y = u := by
      have hP' : its.toArray[i]? = some y := hP
      rw [show its.toArray[i]? = its[i]? by simp, hu] at hP'
      exact (Option.some.inj hP').symm
    subst ey
    refine ⟨_, rfl, wpAny_letOwnedTupleGo_enum (s := { s with heap := h', toks := tk + 1 }) ho fun h'' he' sb => ?_⟩
    have hT2 : h''.get? s.heap.objs.size = some { cls := .type "tuple", data := .seq #[.int i tk, y] } := (sb.2 _ (Nat.ne_of_gt hel)).trans hT
    have new : ObjOk X.prog X.w (upd H s.heap.objs.size (.tup [.int (i : Nat), x])) h'' s.heap.objs.size (.tup [.int (i : Nat), x]) :=
      ⟨by show 2 ≤ sizeLine; decide, [.int i tk, y], .cons ⟨_, rfl⟩ (.cons ru .nil), ⟨_, hT2, rfl, _, rfl⟩⟩
    have I1 : Inv X pins σ (upd H s.heap.objs.size (.tup [.int (i : Nat), x])) { s with heap := h'', toks := tk + 1 } :=
      I.turnedNew (ch := [e, it]) (fun b ob hb q => (sb.2 b (fun z => hb (by simp [z]))).trans (hk b ob (fun z => hb (by simp [z])) (fun z => hb (by simp [z])) q)) hf (Nat.le_refl _) new
    refine ⟨.ref s.heap.objs.size, _, I1, rfl, ⟨_, x, rfl, I.hok.fresh (Nat.le_refl _), rfl, fun ys hy => by rw [I.tuple_inj hy hq]; exact hx⟩, ⟨⟨y, ?_⟩, hst.1.at fun o q => (sb.2 it (Ne.symm hne)).trans q, hne⟩, fun b hb => ?_⟩
    · have e1 : ((i + 1 : Nat) : Int) = (i : Int) + 1 := by omega
      rw [e1]; exact he'
    · have hb' : b < s.heap.objs.size := by
        have e' : b = e ∨ b = it := by simpa using hb
        rcases e' with z | z
        · rw [z]; exact hel
        · rw [z]; exact hil
      rw [upd_ne (Nat.ne_of_lt hb')]
      exact (hf b hb).1
  done := by
    intro X hP hw hK hc i pins s σ H E I hf st hg
    subst hP hw hK
    obtain ⟨⟨old, he⟩, hit, hne⟩ := st
    obtain ⟨xs, hq, hx⟩ := hg
    obtain ⟨its, rv, p, hz⟩ := I.tuple hq
    obtain ⟨f0, f1, f2, f3, f4, f5⟩ := hf it (by simp)
    have hl := rv.length
    exact dl_enum_end (I.ok.hd hc) he hit p (by simp; omega) fun h' eb => ⟨rfl, I.turned (t' := s.toks) (fun b o hb q => eb b o hb q) f0 f1 f3 f4 f5⟩
  self := fun A i s Q E st h => let ⟨⟨_, he⟩, _⟩ := st; wpAny_pyIter_enum he h
/-- enumerate(x), a list or a tuple -/
def iEnumA (K : PySem.W.Frag) (ta : TA) : TI := fun σ H R => ta σ H fun vs H1 => (∃ a xs, vs = [.ref a] ∧ SqL K H1 a xs ∧ R (Ite K a) H1) ∨ (∃ a xs, vs = [.ref a] ∧ SqT K H1 a xs ∧ R (Itte K a) H1)
theorem pi_enumA {X : Cx} {e : Expr} {ta : TA} {p pos tpos : Pos} {elts : List Expr} {kk : Nat} (hg : Gl X "enumerate") (hm : X.mg "enumerate" = none) (ha : PA X [e] ta) (hs : starEach [e] X.env = [(false, eval e X.env)] := by rfl) :
    PI X (.Tuple elts kk tpos) (.Call (.Name "enumerate" p) [e] [] pos) (iEnumA X.K ta) := by
  refine ⟨fun pins s σ H R I h => ?_⟩
  refine Call_ (ld_blt I hg hm boot_enumerate (PyProof.Rows.callWith_type1 (thn (ha.run pos pins s σ H _ I h) fun us s1 ⟨vs, H1, I1, r1, q1⟩ => ?_) hs rfl))
  have fp2 : ∀ b ∈ [s1.heap.objs.size + 1, s1.heap.objs.size], s1.heap.objs.size ≤ b := fun b hb => by
    have e' : b = s1.heap.objs.size + 1 ∨ b = s1.heap.objs.size := by simpa using hb
    rcases e' with z | z
    · rw [z]; exact Nat.le_succ _
    · rw [z]; exact Nat.le_refl _
  rcases q1 with ⟨a, xs, ex, hq, q⟩ | ⟨a, xs, ex, hq, q⟩ <;> subst ex
  · cases r1 with
    | cons r rr =>
      cases rr
      cases r
      obtain ⟨its, rv, p', hz⟩ := I1.list hq
      refine call_enumerate_list p'.isList fun h' he hit hsz hk => wpAny_pyIter_enum he ?_
      have I2 : Inv X pins σ H1 { s1 with heap := h' } := I1.kept (t' := s1.toks) hk
      exact ⟨s1.heap.objs.size + 1, [s1.heap.objs.size + 1, s1.heap.objs.size], _, _, H1, rfl, I2, turn_enum a (s1.heap.objs.size + 1) s1.heap.objs.size, ⟨⟨.none, he⟩, hit, Nat.succ_ne_self _⟩, fun b hb => I1.fpOk (fp2 b hb) (I1.hok.fresh (fp2 b hb)), q⟩
  · cases r1 with
    | cons r rr =>
      cases rr
      cases r
      obtain ⟨its, rv, p', hz⟩ := I1.tuple hq
      have hlt : a < s1.heap.objs.size := p'.lt
      refine dl_call_enum (begins_tuple a its.toArray) p' fun h' he ho hk => wpAny_pyIter_enum he ?_
      have I2 : Inv X pins σ H1 { s1 with heap := h' } := I1.kept (t' := s1.toks) hk
      exact ⟨s1.heap.objs.size + 1, [s1.heap.objs.size + 1, s1.heap.objs.size], _, _, H1, rfl, I2, turn_enumT a (s1.heap.objs.size + 1) s1.heap.objs.size (Nat.ne_of_lt hlt) (Nat.ne_of_lt (Nat.lt_succ_of_lt hlt)), ⟨⟨.none, he⟩, ⟨_, ho, rfl, rfl⟩, Nat.succ_ne_self _⟩,
        fun b hb => I1.fpOk (fp2 b hb) (I1.hok.fresh (fp2 b hb)), q⟩
theorem yl_enumT {C : DC} {p : Addr} {ds : List D} : Yl C (Itte C.K p) (enS 0 ds) [.ref p] [.da (.tuple ds)] := fun Hd H σ ρ vs ss i E => by
  have E' : En C Hd H σ ρ (.ref p :: vs) (.da (.tuple ds) :: ss) := E
  obtain ⟨a, xs, e1, hx, ax⟩ := dp_tup E'.top
  cases e1
  refine ⟨fun h => ⟨xs, E.sub.seqT hx, by rw [ax.length]; simpa [enS_length] using h⟩, fun s hs => ?_⟩
  rw [enS_get] at hs
  cases hd : ds[i]? with
  | none => rw [hd] at hs; cases hs
  | some d =>
    rw [hd] at hs
    cases hs
    obtain ⟨v, hv, dv⟩ := ax.get hd
    refine ⟨⟨xs, v, E.sub.seqT hx, hv⟩, fun x H' ⟨T, z, e1, nT, e2, y⟩ => ?_⟩
    subst e1 e2
    have e2 := y xs (E.sub.seqT hx)
    rw [hv] at e2
    cases e2
    refine ⟨_, E.newT nT (ds := [.int ((0 + i : Nat) : Int), d]) (.cons ?_ (.cons dv .nil))⟩
    rw [Nat.zero_add]
    exact .int _
def enumS (rs : List Sl) (Q : List Sl → Prop) : Prop := match rs with
  | [s] => match s.toD with
    | some (.list ds) => Q (enS 0 ds)
    | some (.tuple ds) => Q (enS 0 ds)
    | _ => False
  | _ => False
theorem i_enum {X : Cx} {C : DC} {tg e : Expr} (hK : C.K = X.K) {ta : TDA} (h : PI X tg e (iEnumA X.K (LA C ta))) : PI X tg e (LI C (dIt enumS ta)) := imp_i h fun σ H R ⟨Hd, ρ, vs, ss, Rd, E, k, q⟩ =>
  ⟨Hd, ρ, vs, ss, _, E, fun rs ρ1 ws Hd1 H1 q1 l E1 => by
    unfold enumS at q1
    split at q1
    · match ws, l with
      | [w], _ =>
        split at q1
        · rename_i ds e1
          obtain ⟨Hd2, _, E2⟩ := En.fz (v := w) (vs := vs) (ss := ss) E1 e1
          obtain ⟨a, xs, rfl, hx, ax⟩ := dp_lst E2.top
          exact .inl ⟨a, xs, rfl, .inl (E2.sub.rd hx), hK ▸ k _ ρ1 _ [.ref a] [.da (.list ds)] Hd2 H1 q1 rfl E2 yl_enum⟩
        · rename_i ds e1
          obtain ⟨Hd2, _, E2⟩ := En.fz (v := w) (vs := vs) (ss := ss) E1 e1
          obtain ⟨a, xs, rfl, hx, ax⟩ := dp_tup E2.top
          exact .inr ⟨a, xs, rfl, hK ▸ E2.sub.seqT hx, hK ▸ k _ ρ1 _ [.ref a] [.da (.tuple ds)] Hd2 H1 q1 rfl E2 yl_enumT⟩
        · exact q1.elim
    · exact q1.elim, q⟩
end DL

-- DL7
set_option autoImplicit true
namespace DL
open PySem PySem.Spec PyProof.Rows L2
/-! ### statements -/
structure EndsD where
  nx : Rho → Prop
  rt : Sl → Rho → Prop
  bk : Rho → Prop := fun _ => False
  ct : Rho → Prop := fun _ => False
abbrev TDS := EndsD → Rho → Prop
structure Low (C : DC) (vs : List V) (ss : List Sl) (D : Ends) (Dd : EndsD) : Prop where
  nx : ∀ ρ σ Hd H, Dd.nx ρ → En C Hd H σ ρ vs ss → D.nx σ H
  bk : ∀ ρ σ Hd H, Dd.bk ρ → En C Hd H σ ρ vs ss → D.bk σ H
  ct : ∀ ρ σ Hd H, Dd.ct ρ → En C Hd H σ ρ vs ss → D.ct σ H
  rt : ∀ s ρ v σ Hd H, Dd.rt s ρ → En C Hd H σ ρ (v :: vs) (s :: ss) → D.rt v H
def LS (C : DC) (t : TDS) : TS := fun D σ H => ∃ Hd ρ vs ss Dd, En C Hd H σ ρ vs ss ∧ Low C vs ss D Dd ∧ t Dd ρ
theorem imp_s {X : Cx} {st : Stmt} {t t' : TS} (h : PS X st t) (k : ∀ D σ H, t' D σ H → t D σ H) : PS X st t' := ⟨fun pins s σ H D I q => h.run pins s σ H D I (k D σ H q)⟩
theorem imp_ss {X : Cx} {st : List Stmt} {t t' : TS} (h : PSs X st t) (k : ∀ D σ H, t' D σ H → t D σ H) : PSs X st t' := ⟨fun pins s σ H D I q => h.run pins s σ H D I (k D σ H q)⟩
def sNext : TDS := fun D ρ => D.nx ρ
def sSeq (t u : TDS) : TDS := fun D ρ => t { D with nx := u D } ρ
def sAsg (te : TD) (g : TDG) : TDS := fun D ρ => te ρ fun s ρ1 => g s ρ1 D.nx
def sDrop (te : TD) : TDS := fun D ρ => te ρ fun _ ρ1 => D.nx ρ1
def sRet (te : TD) : TDS := fun D ρ => te ρ D.rt
def sRetN : TDS := fun D ρ => D.rt (.da .none) ρ
def sIf (c : TDT) (t u : TDS) : TDS := fun D ρ => c ρ fun b ρ1 => cnd b (t D ρ1) (u D ρ1)
section
variable {X : Cx} {C : DC} {st : Stmt} {rest : List Stmt} {t u : TDS} {e a b c : Expr} {te : TD} {pos : Pos}
theorem ss_nil : PSs X [] (LS C sNext) := imp_ss pss_nil fun D σ H ⟨Hd, ρ, vs, ss, Dd, E, L, q⟩ => L.nx _ _ _ _ q E
theorem ss_cons (h1 : PS X st (LS C t)) (h2 : PSs X rest (LS C u)) : PSs X (st :: rest) (LS C (sSeq t u)) := imp_ss (pss_cons h1 h2) fun D σ H ⟨Hd, ρ, vs, ss, Dd, E, L, q⟩ =>
  ⟨Hd, ρ, vs, ss, { Dd with nx := u Dd }, E, ⟨fun ρ' σ' Hd' H' q' E' => ⟨Hd', ρ', vs, ss, Dd, E', L, q'⟩, L.bk, L.ct, L.rt⟩, q⟩
theorem ss_one (h1 : PS X st (LS C t)) : PSs X [st] (LS C t) := pss_one h1
theorem asg_le {i : Nat} {D : Ends} {σ : L2.St} {H : Hp} {t : TE} (hl : ∀ Q, LE C te σ H Q → t σ H Q) (h : LS C (sAsg te (dgName i)) D σ H) : tAsg t (gName i) D σ H := by
  obtain ⟨Hd, ρ, vs, ss, Dd, E, L, q⟩ := h
  exact hl _ ⟨Hd, ρ, vs, ss, _, E, fun s ρ1 v Hd1 H1 q1 E1 => name_le ⟨Hd1, ρ1, vs, ss, s, _, E1, fun ρ' σ' Hd' H' q' _ E' => L.nx ρ' σ' Hd' H' q' E', q1⟩, q⟩
theorem s_set {i : Nat} (h : PS X st (tAsg (LE C te) (gName i))) : PS X st (LS C (sAsg te (dgName i))) := imp_s h fun D σ H q => asg_le (fun _ q => q) q
theorem s_asg {g : TDG} {is : List Nat} (h : PS X st (tAsg (LE C te) (LG C is g))) : PS X st (LS C (sAsg te g)) := imp_s h fun D σ H ⟨Hd, ρ, vs, ss, Dd, E, L, q⟩ =>
  ⟨Hd, ρ, vs, ss, _, E, fun s ρ1 v Hd1 H1 q1 E1 => ⟨Hd1, ρ1, vs, ss, s, _, E1, fun ρ' σ' Hd' H' q' _ E' => L.nx ρ' σ' Hd' H' q' E', q1⟩, q⟩
theorem s_expr (he : PE X e (LE C te)) (hs : swapsWith e none pos.line X.env = pure false := by rfl) : PS X (.Expr e pos) (LS C (sDrop te)) := imp_s (ps_expr he hs) fun D σ H ⟨Hd, ρ, vs, ss, Dd, E, L, q⟩ =>
  ⟨Hd, ρ, vs, ss, _, E, fun s ρ1 v Hd1 H1 q1 E1 => L.nx _ _ _ _ q1 E1.drop, q⟩
theorem s_ret (he : PE X e (LE C te)) : PS X (.Return (some e) pos) (LS C (sRet te)) := imp_s (ps_ret he) fun D σ H ⟨Hd, ρ, vs, ss, Dd, E, L, q⟩ =>
  ⟨Hd, ρ, vs, ss, _, E, fun s ρ1 v Hd1 H1 q1 E1 => L.rt s ρ1 v σ Hd1 H1 q1 E1, q⟩
theorem s_retN : PS X (.Return none pos) (LS C sRetN) := imp_s ps_retN fun D σ H ⟨Hd, ρ, vs, ss, Dd, E, L, q⟩ => L.rt _ ρ .non σ Hd H q (E.push .non)
theorem s_if {as bs : List Stmt} {tc : TDT} (hc : PT X c (LT C tc)) (ha : PSs X as (LS C t)) (hb : PSs X bs (LS C u)) : PS X (.If c as bs pos) (LS C (sIf tc t u)) := imp_s (ps_if hc ha hb) fun D σ H ⟨Hd, ρ, vs, ss, Dd, E, L, q⟩ =>
  ⟨Hd, ρ, vs, ss, _, E, fun b ρ1 Hd1 H1 q1 E1 => by
    cases b with
    | true => rw [if_pos rfl]; exact ⟨Hd1, ρ1, vs, ss, Dd, E1, L, q1⟩
    | false => rw [if_neg Bool.false_ne_true]; exact ⟨Hd1, ρ1, vs, ss, Dd, E1, L, q1⟩, q⟩
def sNever : TDS := fun _ _ => False
theorem ss_never {sts : List Stmt} : PSs X sts (LS C sNever) := imp_ss pss_never fun D σ H ⟨_, _, _, _, _, _, _, q⟩ => q
/-- a, b = x, y -/
def sPar (i j : Nat) (ta : TDA) : TDS := fun D ρ => ta ρ fun rs ρ1 => match rs with
  | [s, s'] => match ρ1[i]?, ρ1[j]? with
    | some _, some _ => D.nx ((ρ1.set i s).set j s')
    | _, _ => False
  | _ => False
theorem s_par {i j : Nat} {ta : TDA} (hij : i ≠ j) (h : PS X st (tPar i j (LA C ta))) : PS X st (LS C (sPar i j ta)) := imp_s h fun D σ H ⟨Hd, ρ, vs, ss, Dd, E, L, q⟩ =>
  ⟨Hd, ρ, vs, ss, _, E, fun rs ρ1 ws Hd1 H1 q1 l E1 => by
    split at q1
    · match ws, l with
      | [w, w'], _ =>
        split at q1
        · rename_i e1 e2
          have E' : En C Hd1 H1 σ ρ1 (w :: w' :: vs) (_ :: _ :: ss) := E1
          have E2 := E'.put (i := i) (List.getElem?_eq_some_iff.mp e1).1
          have E3 := E2.put (i := j) (by rw [List.length_set]; exact (List.getElem?_eq_some_iff.mp e2).1)
          exact ⟨w, w', rfl, L.nx _ _ _ _ q1 E3⟩
        · exact q1.elim
    · exact q1.elim, q⟩
/-! ### for, while -/
/-- what a for does with what is still to come -/
def forGo (g : TDG) (tb : TDS) (D : EndsD) : List Sl → Rho → Prop
  | [], ρ => D.nx ρ
  | s :: its, ρ => g s ρ fun ρ2 => tb { D with nx := forGo g tb D its, ct := forGo g tb D its, bk := D.nx } ρ2
theorem drop_get {α : Type} {l : List α} {i : Nat} {s : α} (h : l[i]? = some s) : l.drop i = s :: l.drop (i + 1) := by
  obtain ⟨hi, rfl⟩ := List.getElem?_eq_some_iff.mp h
  exact List.drop_eq_getElem_cons hi
theorem forGo_w {g : TDG} {tb : TDS} {D : EndsD} {its : List Sl} {ρ1 : Rho} (h : forGo g tb D its ρ1) : ∃ Wi : Nat → Rho → Prop, Wi 0 ρ1 ∧ (∀ i s ρ, its[i]? = some s → Wi i ρ → g s ρ fun ρ2 => tb { D with nx := Wi (i + 1), ct := Wi (i + 1), bk := D.nx } ρ2) ∧ ∀ ρ, Wi its.length ρ → D.nx ρ := by
  refine ⟨fun i ρ => forGo g tb D (its.drop i) ρ, h, fun i s ρ hs w => ?_, fun ρ w => ?_⟩
  · dsimp only at w
    rw [drop_get hs] at w
    exact w
  · dsimp only at w
    rw [List.drop_length] at w
    exact w
def sFor (ti : TDI) (g : TDG) (tb : TDS) : TDS := fun D ρ => ti ρ fun its ρ1 => forGo g tb D its ρ1
/-- a for, by what holds before each of the rest -/
theorem forGo_ind {α : Type} {g : TDG} {tb : TDS} {D : EndsD} (I : List α → Rho → Prop) {f : α → Sl} (step : ∀ x xs ρ (W : Rho → Prop), (∀ ρ', I xs ρ' → W ρ') → I (x :: xs) ρ → g (f x) ρ fun ρ2 => tb { D with nx := W, ct := W, bk := D.nx } ρ2)
    (fin : ∀ ρ, I [] ρ → D.nx ρ) : ∀ (xs : List α) (ρ : Rho), I xs ρ → forGo g tb D (xs.map f) ρ
  | [], ρ, h => fin ρ h
  | x :: xs, ρ, h => step x xs ρ _ (forGo_ind I step fin xs) h
theorem forGo_enum {α : Type} {g : TDG} {tb : TDS} {D : EndsD} (I : Nat → List α → Rho → Prop) {f : α → DL.D} (step : ∀ n x xs ρ (W : Rho → Prop), (∀ ρ', I (n + 1) xs ρ' → W ρ') → I n (x :: xs) ρ → g (.da (.tuple [.int (n : Nat), f x])) ρ fun ρ2 => tb { D with nx := W, ct := W, bk := D.nx } ρ2)
    (fin : ∀ n ρ, I n [] ρ → D.nx ρ) : ∀ (xs : List α) (n : Nat) (ρ : Rho), I n xs ρ → forGo g tb D (enS n (xs.map f)) ρ
  | [], n, ρ, h => fin n ρ h
  | x :: xs, n, ρ, h => step n x xs ρ _ (forGo_enum I step fin xs (n + 1)) h
/-- the same over data as they are -/
theorem forGo_enumD {g : TDG} {tb : TDS} {D : EndsD} (I : Nat → List DL.D → Rho → Prop) (step : ∀ n x xs ρ (W : Rho → Prop), (∀ ρ', I (n + 1) xs ρ' → W ρ') → I n (x :: xs) ρ → g (.da (.tuple [.int (n : Nat), x])) ρ fun ρ2 => tb { D with nx := W, ct := W, bk := D.nx } ρ2)
    (fin : ∀ n ρ, I n [] ρ → D.nx ρ) : ∀ (xs : List DL.D) (n : Nat) (ρ : Rho), I n xs ρ → forGo g tb D (enS n xs) ρ
  | [], n, ρ, h => fin n ρ h
  | x :: xs, n, ρ, h => step n x xs ρ _ (forGo_enumD I step fin xs (n + 1)) h
theorem forGo_rng {g : TDG} {tb : TDS} {D : EndsD} {lo : Int} {n : Nat} (I : Nat → Rho → Prop) (step : ∀ k ρ (W : Rho → Prop), k < n → (∀ ρ', I (k + 1) ρ' → W ρ') → I k ρ → g (.da (.int (lo + (k : Nat)))) ρ fun ρ2 => tb { D with nx := W, ct := W, bk := D.nx } ρ2)
    (fin : ∀ ρ, I n ρ → D.nx ρ) {ρ : Rho} (h : I 0 ρ) : forGo g tb D (rgS lo n) ρ := by
  have key : ∀ m k ρ, k + m = n → I k ρ → forGo g tb D ((List.range' k m).map fun k => Sl.da (.int (lo + (k : Nat)))) ρ := by
    intro m
    induction m with
    | zero => intro k ρ e i; exact fin ρ (by rw [← e]; exact i)
    | succ m ih => intro k ρ e i; exact step k ρ _ (by omega) (ih (k + 1) · (by omega)) i
  have z := key n 0 ρ (by omega) h
  rw [← List.range_eq_range'] at z
  exact z
theorem s_for {ti : TDI} {g : TDG} {tb : TDS} {is : List Nat} (h : PS X st (tFor (LI C ti) (LG C is g) (LS C tb))) : PS X st (LS C (sFor ti g tb)) := imp_s h fun D σ H ⟨Hd, ρ, vs, ss, Dd, E, L, q⟩ =>
  ⟨Hd, ρ, vs, ss, _, E, fun its ρ1 J pv ps Hd1 H1 q0 l E1 Y => by
    obtain ⟨Wi, i0, step, fin⟩ := forGo_w q0
    exact ⟨fun i m σ H => m = its.length - i ∧ i ≤ its.length ∧ ∃ Hd ρ, En C Hd H σ ρ (pv ++ vs) (ps ++ ss) ∧ Wi i ρ, ⟨_, rfl, Nat.zero_le _, Hd1, ρ1, E1, i0⟩, by
      rintro i m σ2 H2 ⟨rfl, hi, Hd2, ρ2, E2, iv⟩
      have y := Y Hd2 H2 σ2 ρ2 vs ss i E2
      by_cases hlt : i < its.length
      · obtain ⟨go, yl⟩ := y.2 its[i] (by simp [hlt])
        refine .inr ⟨go, fun σ' H' => ∃ Hd ρ, En C Hd H' σ' ρ (pv ++ vs) (ps ++ ss) ∧ Wi (i + 1) ρ, fun σ' H' w => ⟨_, by omega, rfl, hlt, w⟩, fun x H3 hy => ?_⟩
        obtain ⟨Hd3, E3⟩ := yl x H3 hy
        refine ⟨Hd3, ρ2, pv ++ vs, ps ++ ss, its[i], _, E3, fun ρ4 σ4 Hd4 H4 q4 _ E4 => ⟨Hd4, ρ4, pv ++ vs, ps ++ ss, { Dd with nx := Wi (i + 1), ct := Wi (i + 1), bk := Dd.nx }, E4, ⟨fun ρ5 σ5 Hd5 H5 q5 E5 => ⟨Hd5, ρ5, E5, q5⟩, fun ρ5 σ5 Hd5 H5 q5 E5 => L.nx _ _ _ _ q5 (E5.dropN l), fun ρ5 σ5 Hd5 H5 q5 E5 => ⟨Hd5, ρ5, E5, q5⟩, fun s ρ5 v σ5 Hd5 H5 q5 E5 => L.rt s ρ5 v σ5 Hd5 H5 q5 (E5.dropU l)⟩, q4⟩, ?_⟩
        exact step i its[i] ρ2 (by simp [hlt]) iv
      · have e : i = its.length := by omega
        subst e
        exact .inl ⟨y.1 (Nat.le_refl _), L.nx _ _ _ _ (fin ρ2 iv) (E2.dropN l)⟩⟩, q⟩
def sWhile (c : TDT) (tb : TDS) : TDS := fun D ρ => ∃ Wi : Nat → Rho → Prop, (∃ m, Wi m ρ) ∧ ∀ m ρ, Wi m ρ → c ρ fun b ρ1 => cnd b (tb { D with nx := fun ρ' => ∃ m', m' < m ∧ Wi m' ρ', ct := fun ρ' => ∃ m', m' < m ∧ Wi m' ρ', bk := D.nx } ρ1) (D.nx ρ1)
theorem s_while {tc : TDT} {tb : TDS} (h : PS X st (tWhile (LT C tc) (LS C tb))) : PS X st (LS C (sWhile tc tb)) := imp_s h fun D σ H ⟨Hd, ρ, vs, ss, Dd, E, L, ⟨Wi, ⟨m0, i0⟩, step⟩⟩ =>
  ⟨fun m σ H => ∃ Hd ρ, En C Hd H σ ρ vs ss ∧ Wi m ρ, ⟨m0, Hd, ρ, E, i0⟩, by
    rintro m σ1 H1 ⟨Hd1, ρ1, E1, iv⟩
    refine ⟨Hd1, ρ1, vs, ss, _, E1, fun b ρ2 Hd2 H2 q2 E2 => ?_, step m ρ1 iv⟩
    cases b with
    | true =>
      rw [if_pos rfl]
      exact ⟨fun σ' H' => ∃ m', m' < m ∧ ∃ Hd ρ, En C Hd H' σ' ρ vs ss ∧ Wi m' ρ, fun σ' H' ⟨m', hm, w⟩ => ⟨m', hm, w⟩, Hd2, ρ2, vs, ss, { Dd with nx := fun ρ' => ∃ m', m' < m ∧ Wi m' ρ', ct := fun ρ' => ∃ m', m' < m ∧ Wi m' ρ', bk := Dd.nx }, E2,
        ⟨fun ρ5 σ5 Hd5 H5 ⟨m', hm, q5⟩ E5 => ⟨m', hm, Hd5, ρ5, E5, q5⟩, fun ρ5 σ5 Hd5 H5 q5 E5 => L.nx _ _ _ _ q5 E5, fun ρ5 σ5 Hd5 H5 ⟨m', hm, q5⟩ E5 => ⟨m', hm, Hd5, ρ5, E5, q5⟩, L.rt⟩, q2⟩
    | false => rw [if_neg Bool.false_ne_true]; exact L.nx _ _ _ _ q2 E2⟩
end
/-! ### comprehensions -/
/-- slots forgotten -/
def wipeR (ρ : Rho) : List Nat → Rho
  | [] => ρ
  | v :: vs => (wipeR ρ vs).set v .un
theorem Ls.wipe {C : DC} {Hd H : Hp} : ∀ {xs : List (Option V)} {ss : List Sl} {fp : List Addr} (i : Nat) (y : Option V), Ls C Hd H xs ss fp → ∃ fp', Ls C Hd H (xs.set i y) (ss.set i .un) fp' ∧ (∀ a, fp'.count a ≤ fp.count a)
  | [], [], fp, i, y, h => ⟨fp, by simpa using h, fun _ => Nat.le_refl _⟩
  | x :: xs, s :: ss, _, 0, y, ⟨f, g, e, h1, h2⟩ => ⟨g, ⟨[], g, rfl, rfl, h2⟩, fun a => by subst e; simp only [List.count_append]; omega⟩
  | x :: xs, s :: ss, _, i + 1, y, ⟨f, g, e, h1, h2⟩ => by
    obtain ⟨g', q1, q2⟩ := Ls.wipe i y h2
    subst e
    exact ⟨f ++ g', ⟨f, g', rfl, h1, q1⟩, fun a => by simp only [List.count_append]; have := q2 a; omega⟩
  | [], _ :: _, _, _, _, h => h.elim
  | _ :: _, [], _, _, _, h => h.elim
section
variable {C : DC} {Hd Hd' H H' : Hp} {σ σ' : L2.St} {ρ : Rho} {vs ws : List V} {ss rs : List Sl} {v : V} {s : Sl}
theorem En.wipe1 (E : En C Hd H σ ρ vs ss) (i : Nat) (y : Option V) : En C Hd H (σ.set i y) (ρ.set i .un) vs ss := by
  obtain ⟨f, g, h2, h3, h4, h5⟩ := E.sep
  obtain ⟨g', q1, q2⟩ := h3.wipe i y
  refine ⟨E.keep, E.there, E.ext, E.new, E.sub, E.tabs, f, g', h2, q1, fun a => ?_, fun a ha => h5 a ?_⟩
  · have := h4 a; have := q2 a; simp only [List.count_append] at *; omega
  · rcases List.mem_append.mp ha with ha | ha
    · simp [ha]
    · have := cnt_mem ha
      exact List.mem_append_right _ (cnt_mem' (by have := q2 a; omega))
theorem En.wipe (E : En C Hd H σ ρ vs ss) : ∀ is : List Nat, En C Hd H (wipe σ is) (wipeR ρ is) vs ss
  | [] => E
  | i :: is => (E.wipe is).wipe1 i none
/-- back at the values ahead -/
theorem En.back (E : En C Hd H σ' ρ vs ss) : ∀ (is : List Nat), L2.wipe σ' is = L2.wipe σ is → En C Hd H σ (wipeR ρ is) vs ss := by
  have gen : ∀ (is : List Nat) (σ1 : L2.St) (ρ1 : Rho), En C Hd H σ1 ρ1 vs ss → σ1.length = σ.length → (∀ j, j ∉ is → σ1[j]? = σ[j]?) → En C Hd H σ (wipeR ρ1 is) vs ss := by
    intro is
    induction is with
    | nil =>
      intro σ1 ρ1 E1 _ h
      have : σ1 = σ := List.ext_getElem? fun j => h j (by simp)
      subst this
      exact E1
    | cons i is ih =>
      intro σ1 ρ1 E1 hl h
      -- put the i-th right first
      by_cases hi : i < σ.length
      · have E2 := E1.wipe1 i (σ[i])
        have q := ih (σ1.set i σ[i]) (ρ1.set i .un) E2 (by simpa using hl) fun j hj => by
          by_cases hji : i = j
          · subst hji
            rw [List.getElem?_set_self (by omega)]
            simp [hi]
          · rw [List.getElem?_set_ne hji]
            exact h j (by simp; exact ⟨fun z => hji z.symm, hj⟩)
        have comm : ∀ (is : List Nat) (ρ : Rho), wipeR (ρ.set i .un) is = (wipeR ρ is).set i .un := by
          intro is
          induction is with
          | nil => intro ρ; rfl
          | cons k is ih2 =>
            intro ρ
            show (wipeR (ρ.set i .un) is).set k .un = ((wipeR ρ is).set k .un).set i .un
            rw [ih2]
            by_cases hk : i = k
            · subst hk; rfl
            · exact List.set_comm _ _ hk
        rw [comm] at q
        exact q
      · have q := ih σ1 ρ1 E1 hl fun j hj => by
          by_cases hji : i = j
          · subst hji
            rw [List.getElem?_eq_none (by omega), List.getElem?_eq_none (by omega)]
          · exact h j (by simp; exact ⟨fun z => hji z.symm, hj⟩)
        exact q.wipe1 i none |> fun z => by
          rw [List.set_eq_of_length_le (by omega)] at z
          exact z
  intro is he
  have hl : σ'.length = σ.length := by rw [← wipe_length σ' is, he, wipe_length]
  refine gen is σ' ρ E hl fun j hj => ?_
  have out : ∀ (is : List Nat) (τ : L2.St), j ∉ is → (L2.wipe τ is)[j]? = τ[j]? := by
    intro is
    induction is with
    | nil => intro τ _; rfl
    | cons k is ih =>
      intro τ hk
      show ((L2.wipe τ is).set k none)[j]? = _
      rw [List.getElem?_set_ne (by intro z; subst z; simp at hk)]
      exact ih τ (by simp at hk; exact hk.2)
  rw [← out is σ' hj, he, out is σ hj]
theorem wipe_out {is : List Nat} : ∀ {σ σ' : L2.St}, Out is (L2.wipe σ is) σ' → L2.wipe σ' is = L2.wipe σ is := by
  intro σ σ' h
  have at_ : ∀ (ks : List Nat) (τ : L2.St) (j : Nat), (L2.wipe τ ks)[j]? = if j ∈ ks then (if j < τ.length then some none else none) else τ[j]? := by
    intro ks
    induction ks with
    | nil => intro τ j; simp [L2.wipe]
    | cons k ks ih =>
      intro τ j
      show ((L2.wipe τ ks).set k none)[j]? = _
      by_cases hk : k = j
      · subst hk
        rw [if_pos (by simp)]
        by_cases hl : k < τ.length
        · rw [List.getElem?_set_self (by rw [wipe_length]; exact hl), if_pos hl]
        · rw [List.getElem?_eq_none (by rw [List.length_set, wipe_length]; omega), if_neg hl]
      · rw [List.getElem?_set_ne hk, ih τ j]
        by_cases hj : j ∈ ks
        · rw [if_pos hj, if_pos (List.mem_cons_of_mem _ hj)]
        · rw [if_neg hj, if_neg (by simp [Ne.symm hk, hj])]
  apply List.ext_getElem?
  intro j
  rw [at_, at_]
  have hl : σ'.length = σ.length := by rw [h.1, wipe_length]
  by_cases hj : j ∈ is
  · rw [if_pos hj, if_pos hj, hl]
  · rw [if_neg hj, if_neg hj, h.2 j hj, at_, if_neg hj]
theorem Out.mono {is js : List Nat} (h : Out is σ σ') (k : ∀ i ∈ is, i ∈ js) : Out js σ σ' := ⟨h.1, fun j hj => h.2 j fun z => hj (k j z)⟩
/-- an item put to the list that waits below -/
theorem En.app {p : Addr} {acc : List D} {d : D} (E : En C Hd H σ ρ (v :: .ref p :: vs) (.da d :: .ow (.l acc) :: ss)) : ∃ xs, H p = some (.lst xs) ∧ xs.length = acc.length ∧ En C Hd (upd H p (.lst (xs ++ [v]))) σ ρ (.ref p :: vs) (.ow (.l (acc ++ [d])) :: ss) := by
  have hd := E.top
  have E1 := E.drop
  obtain ⟨_, g, ⟨f1, f2, rfl, ⟨⟨w, e1, a, xs, rfl, rfl, h1, h2⟩, h0⟩, h3⟩, h4, h5, h6⟩ := E1.sep
  cases e1
  have out : ∀ a ∈ f2 ++ g, a ≠ p := fun a ha z => by
    subst z
    have q := h5 a
    have q1 := cnt_mem ha
    simp only [List.count_append, List.count_cons_self, List.count_nil] at q q1
    omega
  have k : ∀ a ∈ f2 ++ g, upd H p (.lst (xs ++ [v])) a = H a := fun a ha => upd_ne (out a ha)
  have nF : NN C.F p := h0 p (by simp)
  have nHd : NN Hd p := h6 p (by simp)
  refine ⟨xs, h1, h2.length, ⟨fun a o t hb e => ?_, fun a o t e => ?_, E1.ext, E1.new, fun a o t e => ?_, tabs_at E1.tabs h1, [p] ++ f2, g, ⟨[p], f2, rfl, ⟨⟨.ref p, rfl, p, _, rfl, rfl, upd_same, h2.append (.cons hd .nil)⟩, h0⟩, h3.mono (Sub.refl _) fun a ha => k a (by simp [ha])⟩, h4.mono (Sub.refl _) fun a ha => k a (by simp [ha]), h5, h6⟩⟩
  · rw [upd_ne (ne_of_nn e t nF)]; exact E1.keep a o t hb e
  · rw [upd_ne (ne_of_nn e t nF)]; exact E1.there a o t e
  · rw [upd_ne (ne_of_nn e t nHd)]; exact E1.sub a o t e
end
def lcGo (g : TDG) (tt : TDT) (te : TD) (is : List Nat) (k : List D → Rho → Prop) : List Sl → List D → Rho → Prop
  | [], acc, ρ => k acc ρ
  | s :: its, acc, ρ => g s (wipeR ρ is) fun ρ2 => tt ρ2 fun b ρ3 => cnd b (te ρ3 fun s ρ4 => match s.toD with
    | some d => lcGo g tt te is k its (acc ++ [d]) (wipeR ρ4 is)
    | none => False) (lcGo g tt te is k its acc (wipeR ρ3 is))
theorem lcGo_w {g : TDG} {tt : TDT} {te : TD} {is : List Nat} {k : List D → Rho → Prop} {its : List Sl} {ρ1 : Rho} (h : lcGo g tt te is k its [] ρ1) : ∃ Wi : Nat → List D → Rho → Prop, Wi 0 [] ρ1 ∧
  (∀ i s acc ρ, its[i]? = some s → Wi i acc ρ → g s (wipeR ρ is) fun ρ2 => tt ρ2 fun b ρ3 => cnd b (te ρ3 fun s ρ4 => match s.toD with
    | some d => Wi (i + 1) (acc ++ [d]) (wipeR ρ4 is)
    | none => False) (Wi (i + 1) acc (wipeR ρ3 is))) ∧ ∀ acc ρ, Wi its.length acc ρ → k acc ρ := by
  refine ⟨fun i acc ρ => lcGo g tt te is k (its.drop i) acc ρ, h, fun i s acc ρ hs w => ?_, fun acc ρ w => ?_⟩
  · dsimp only at w
    rw [drop_get hs] at w
    exact w
  · dsimp only at w
    rw [List.drop_length] at w
    exact w
/-- what a comprehension puts to a list -/
def addO (acc : List D) : Option D → List D
  | some d => acc ++ [d]
  | none => acc
theorem lcGo_map {α : Type} {g : TDG} {tt : TDT} {te : TD} {is : List Nat} {k : List D → Rho → Prop} {f : α → Sl} {ρ : Rho} (F : α → Option D) : ∀ (xs : List α) (acc : List D)
    (step : ∀ x ∈ xs, ∀ acc (W : List D → Rho → Prop), W (addO acc (F x)) ρ → g (f x) (wipeR ρ is) fun ρ2 => tt ρ2 fun b ρ3 => cnd b (te ρ3 fun s ρ4 => match s.toD with
    | some d => W (acc ++ [d]) (wipeR ρ4 is)
    | none => False) (W acc (wipeR ρ3 is))), k (acc ++ xs.filterMap F) ρ → lcGo g tt te is k (xs.map f) acc ρ
  | [], acc, _, h => by rw [List.filterMap_nil, List.append_nil] at h; exact h
  | x :: xs, acc, step, h => by
    refine step x (by simp) acc (fun acc ρ => lcGo g tt te is k (xs.map f) acc ρ) (lcGo_map F xs _ (fun y hy => step y (by simp [hy])) ?_)
    cases e : F x with
    | none => rw [List.filterMap_cons_none e] at h; exact h
    | some d => rw [List.filterMap_cons_some e] at h; rw [addO, List.append_assoc]; exact h
/-- over enumerate -/
def enF {α : Type} (F : Nat → α → Option D) : Nat → List α → List D
  | _, [] => []
  | n, x :: xs => match F n x with
    | some d => d :: enF F (n + 1) xs
    | none => enF F (n + 1) xs
theorem lcGo_enum {α : Type} {g : TDG} {tt : TDT} {te : TD} {is : List Nat} {k : List D → Rho → Prop} {f : α → D} {ρ : Rho} (F : Nat → α → Option D) (Z : List α) : ∀ (xs : List α) (n : Nat) (acc : List D) (hz : Z.drop n = xs)
    (step : ∀ n x, Z[n]? = some x → ∀ acc (W : List D → Rho → Prop), W (addO acc (F n x)) ρ → g (.da (.tuple [.int (n : Nat), f x])) (wipeR ρ is) fun ρ2 => tt ρ2 fun b ρ3 => cnd b (te ρ3 fun s ρ4 => match s.toD with
    | some d => W (acc ++ [d]) (wipeR ρ4 is)
    | none => False) (W acc (wipeR ρ3 is))), k (acc ++ enF F n xs) ρ → lcGo g tt te is k (enS n (xs.map f)) acc ρ
  | [], n, acc, _, _, h => by rw [enF, List.append_nil] at h; exact h
  | x :: xs, n, acc, hz, step, h => by
    have hx : Z[n]? = some x := by
      have z := congrArg (·[0]?) hz
      simpa using z
    refine step n x hx acc (fun acc ρ => lcGo g tt te is k (enS (n + 1) (xs.map f)) acc ρ) (lcGo_enum F Z xs (n + 1) _ ?_ step ?_)
    · rw [← List.drop_drop, hz]; rfl
    · rw [enF] at h
      cases e : F n x with
      | none => rw [e] at h; exact h
      | some d => rw [e] at h; rw [addO, List.append_assoc]; exact h
theorem lcGo_rng {g : TDG} {tt : TDT} {te : TD} {is : List Nat} {k : List D → Rho → Prop} {lo : Int} {n : Nat} {ρ : Rho} (F : Nat → Option D)
    (step : ∀ j < n, ∀ acc (W : List D → Rho → Prop), W (addO acc (F j)) ρ → g (.da (.int (lo + (j : Nat)))) (wipeR ρ is) fun ρ2 => tt ρ2 fun b ρ3 => cnd b (te ρ3 fun s ρ4 => match s.toD with
    | some d => W (acc ++ [d]) (wipeR ρ4 is)
    | none => False) (W acc (wipeR ρ3 is))) (h : k ((List.range n).filterMap F) ρ) : lcGo g tt te is k (rgS lo n) [] ρ :=
  lcGo_map F (List.range n) [] (fun j hj => step j (List.mem_range.mp hj)) h
def dLc (ti : TDI) (g : TDG) (tt : TDT) (te : TD) (is : List Nat) : TD := fun ρ Q => ti ρ fun its ρ1 => cnd (Nat.ble its.length sizeLine) (lcGo g tt te is (fun acc ρ => Q (.ow (.l acc)) ρ) its [] (wipeR ρ1 is)) False
theorem cnd_at {b : Bool} {A : Prop} (h : cnd b A False) : b = true ∧ A := by
  cases b with
  | true => exact ⟨rfl, h⟩
  | false => exact h.elim
theorem lc_le {C : DC} {ti : TDI} {g : TDG} {tt : TDT} {te : TD} {is js : List Nat} (hs : ∀ i ∈ js, i ∈ is) {σ : L2.St} {H : Hp} {Q : VK} (h : LE C (dLc ti g tt te is) σ H Q) : tLc (LI C ti) (LG C js g) (LT C tt) (LE C te) is σ H Q := by
  obtain ⟨Hd, ρ, vs, ss, Qd, E, k, q⟩ := h
  refine ⟨Hd, ρ, vs, ss, _, E, fun its ρ1 J pv ps Hd1 H1 q0 l E1 Y p np => ?_, q⟩
  obtain ⟨hz0, q0⟩ := cnd_at q0
  have hz := Nat.ble_eq.mp hz0
  obtain ⟨Wi, i0, step, fin⟩ := lcGo_w q0
  have E1w : En C Hd1 H1 σ (wipeR ρ1 is) (pv ++ vs) (ps ++ ss) := E1.back is rfl
  refine ⟨fun i m H => m = its.length - i ∧ i ≤ its.length ∧ ∃ Hd ρ acc, acc.length ≤ i ∧ En C Hd H σ ρ (.ref p :: (pv ++ vs)) (.ow (.l acc) :: (ps ++ ss)) ∧ Wi i acc ρ, ⟨_, rfl, Nat.zero_le _, Hd1, _, [], Nat.le_refl _, E1w.newL np .nil, i0⟩, ?_⟩
  rintro i m H2 ⟨rfl, hi, Hd2, ρ2, acc, ha, E2, iv⟩
  have E2' : En C Hd2 H2 σ ρ2 (pv ++ .ref p :: vs) (ps ++ .ow (.l acc) :: ss) := E2.over l
  have y := Y Hd2 H2 σ ρ2 _ _ i E2'
  by_cases hlt : i < its.length
  · obtain ⟨go, yl⟩ := y.2 its[i] (by simp [hlt])
    refine .inr ⟨go, fun H' => ∃ Hd ρ acc, acc.length ≤ i + 1 ∧ En C Hd H' σ ρ (.ref p :: (pv ++ vs)) (.ow (.l acc) :: (ps ++ ss)) ∧ Wi (i + 1) acc ρ, fun H' w => ⟨_, by omega, rfl, hlt, w⟩, fun x H3 hy => ?_⟩
    obtain ⟨Hd3, E3⟩ := yl x H3 hy
    -- the item, the list, the rest
    have E3a : En C Hd3 H3 σ ρ2 (x :: .ref p :: (pv ++ vs)) (its[i] :: .ow (.l acc) :: (ps ++ ss)) := by
      have z : En C Hd3 H3 σ ρ2 ((x :: pv) ++ .ref p :: vs) ((its[i] :: ps) ++ .ow (.l acc) :: ss) := E3
      have z2 := z.under (by simp [l])
      exact En.under (ws := [.ref p]) (rs := [.ow (.l acc)]) z2 rfl
    refine ⟨Hd3, wipeR ρ2 is, .ref p :: (pv ++ vs), .ow (.l acc) :: (ps ++ ss), its[i], _, E3a.wipe is, fun ρ4 σ4 Hd4 H4 q4 o4 E4 => ⟨wipe_out (o4.mono hs), Hd4, ρ4, _, _, _, E4, fun b ρ5 Hd5 H5 q5 E5 => ?_, q4⟩, step i its[i] acc ρ2 (by simp [hlt]) iv⟩
    have wo := wipe_out (o4.mono hs)
    cases b with
    | true =>
      refine iteT ?_
      refine ⟨Hd5, ρ5, _, _, _, E5, fun s ρ6 v Hd6 H6 q6 E6 => ?_, q5⟩
      cases es : s.toD with
      | none => rw [es] at q6; exact q6.elim
      | some d =>
        rw [es] at q6
        obtain ⟨Hd7, _, E7⟩ := E6.fz es
        obtain ⟨xs, hx, hlx, E8⟩ := E7.app
        exact ⟨xs, hx, by omega, Hd7, _, _, by simp; omega, E8.back is wo, q6⟩
    | false =>
      refine iteF ?_
      exact ⟨Hd5, _, acc, by omega, E5.back is wo, q5⟩
  · have e : i = its.length := by omega
    subst e
    refine .inl ⟨y.1 (Nat.le_refl _), k _ _ _ _ _ (fin acc ρ2 iv) (E2.dropU l)⟩
theorem q_lc {X : Cx} {C : DC} {e : Expr} {ti : TDI} {g : TDG} {tt : TDT} {te : TD} {is js : List Nat} (hs : ∀ i ∈ js, i ∈ is) (h : PE X e (tLc (LI C ti) (LG C js g) (LT C tt) (LE C te) is)) : PE X e (LE C (dLc ti g tt te is)) := imp_e h fun σ H Q q => lc_le hs q
theorem s_setLc {X : Cx} {C : DC} {st : Stmt} {i : Nat} {ti : TDI} {g : TDG} {tt : TDT} {te : TD} {is js : List Nat} (hs : ∀ i ∈ js, i ∈ is) (h : PS X st (tAsg (tLc (LI C ti) (LG C js g) (LT C tt) (LE C te) is) (gName i))) : PS X st (LS C (sAsg (dLc ti g tt te is) (dgName i))) :=
  imp_s h fun D σ H q => asg_le (fun _ q => lc_le hs q) q
def dYes : TDT := fun ρ Q => Q true ρ
theorem yes_le {X : Cx} {C : DC} : PTs X [] (LT C dYes) := ⟨fun pins s σ H Q I ⟨Hd, ρ, vs, ss, Qd, E, k, q⟩ => pts_nil.run pins s σ H Q I (k _ _ _ _ q E)⟩
end DL

-- DL8
set_option autoImplicit true
namespace DL
open PySem PySem.Spec PyProof.Rows L2
/-! ### defs: as FnOk, where no repr runs around -/
structure FnG (P : Program) (w : World) (K : PySem.W.Frag) (mg : Str → Option Value) (base : Heap) (CX : CXT) (g : Bool) (k : Nat) (f : Addr) (fd : FuncData) (ps : List Str) (sp : Sp) : Prop where
  len : ∀ vs H Q E, sp vs H Q E → vs.length = ps.length
  run : ∀ (A : Around) (outer : List Env) (s : Shared) (H : Hp) (args : Args) (us : List Value) (vs : List V) (Q : VK) (E : XK), Room k A → (g = true → A.guards = some []) → Env0 P w K mg base A outer s H → BindsTo s fd args (ps.zip us) → Vals vs us → sp vs H Q E →
    codeAny (model P w) A (.call (.ref f) args) (CR CX outer P w H s Q E) s
section
variable {P : Program} {w : World} {K : PySem.W.Frag} {mg : Str → Option Value} {base : Heap} {CX : CXT} {g : Bool} {k : Nat} {f : Addr} {fd : FuncData} {ps : List Str} {sp : Sp}
theorem FnG.of (F : FnOk P w K mg base CX k f fd ps sp) : FnG P w K mg base CX g k f fd ps sp := ⟨F.len, fun A outer s H args us vs Q E hr _ => F.run A outer s H args us vs Q E hr⟩
theorem FnG.mono {j : Nat} (F : FnG P w K mg base CX g j f fd ps sp) (h : j ≤ k) : FnG P w K mg base CX g k f fd ps sp := ⟨F.len, fun A outer s H args us vs Q E hr => F.run A outer s H args us vs Q E (hr.mono h)⟩
theorem FnG.imp {sp' : Sp} (F : FnG P w K mg base CX g k f fd ps sp) (h : ∀ vs H Q E, sp' vs H Q E → sp vs H Q E) : FnG P w K mg base CX g k f fd ps sp' :=
  ⟨fun vs H Q E q => F.len vs H Q E (h _ _ _ _ q), fun A outer s H args us vs Q E hr hg he hb hv hs => F.run A outer s H args us vs Q E hr hg he hb hv (h _ _ _ _ hs)⟩
/-- by its body -/
theorem _root_.L2.Fun.okG {x qual : Str} {st : Stmt} {N : List Str} (F : Fun K x qual st f fd) (S : FnScope N ps (defScope st)) (len : ∀ vs H Q E, sp vs H Q E → vs.length = ps.length)
    (hbody : ∀ (cdv : Value) (A : Around) (outer : List Env) (s : Shared) (H : Hp) (vs : List V) (Q : VK) (E : XK), fd.code = cdv → Room k (A.deeper (envOfC qual (defScope st) s.heap.objs.size f cdv)) → (g = true → A.guards = some []) → sp vs H Q E →
      ∃ t, PSs (cxOf CX P w K mg base N qual (defScope st) f cdv A outer s H E) (defBody st) t ∧ t { nx := fun _ H' => Q .non H', rt := Q } (start N vs) H) : FnG P w K mg base CX g (k + 1) f fd ps sp := by
  obtain ⟨oc, od, kV, doc, pm, an, cdv, ct, osl, rfl, lk, hcd⟩ := F.ex
  refine ⟨len, fun A outer s H args us vs Q E hr hgd e0 hb r hsp => ?_⟩
  have kp : ∀ b o, base.get? b = some o → s.heap.get? b = some o := fun b o e => (e0.bs b o e).1
  have KX : K.In s.heap := e0.mod.kin.keeps kp
  refine codeAny_call_function hr.depth (KX _ _ lk) rfl S.co S.gen rfl (PySem.W.codeRec_of KX hcd) (hb _ _ _ _ (wpAny_newFunctionEnv_cells S.kind (fun y hy => ?_) fun env he s1 x => ?_))
  · rcases S.par y.1 (List.of_mem_zip hy).1 with q | q
    · exact .inl q
    · exact .inr ⟨q, PySem.W.cellsFrom_some _ _ _ (.inl q)⟩
  subst he
  refine ⟨(e0.mod.nolimit.keeps kp).keeps x.toInCall.keep, codeAny_func ?_⟩
  obtain ⟨t, ht, hq⟩ := hbody cdv A outer s H vs Q E rfl (hr.deeper _) hgd hsp
  have I := inv_start (CX := CX) (E := E) S hr.hd e0 (len _ _ _ _ hsp) r x
  refine wpAny_mono (ht.run [] s1 (start N vs) H _ I hq) (fun fl s' hs => ?_) fun e s' hs => hs
  cases fl with
  | ret u => obtain ⟨v, σ', H', J, rv, q⟩ := hs; exact ⟨v, H', J.os, J.bare, J.base, J.hok, rv, q⟩
  | next => obtain ⟨σ', H', J, q⟩ := hs; exact ⟨.non, H', J.os, J.bare, J.base, J.hok, rfl, q⟩
  | brk => obtain ⟨_, _, _, q⟩ := hs; exact q.elim
  | cont => obtain ⟨_, _, _, q⟩ := hs; exact q.elim
end
section
variable {X : Cx} {CX : CXT} {g : Bool} {k : Nat} {f : Addr} {fd : FuncData} {ps ks : List Str} {sp : Sp} {dvs : List V} {ds : List Value} {E : XK} {x : Str} {p pos : Pos} {e : Expr} {es : List Expr} {kws : List Keyword} {t tk : TA}
theorem run_g {pins : List (Addr × Obj)} {σ : L2.St} {H : Hp} {s : Shared} {Q : VK} {args : Args} {us : List Value} {vs : List V} (F : FnG X.prog X.w X.K X.mg X.base CX g k f fd ps sp) (hr : Room k X.A) (hgd : g = true → X.A.guards = some []) (hx : Passes CX X E)
    (I : Inv X pins σ H s) (hb : BindsTo s fd args (ps.zip us)) (r : Vals vs us) (h : sp vs H Q E) : wpAny (model X.prog X.w) X.A (call (.ref f) args.pos args.kw) (EP X pins σ Q) X.xe s := by
  refine wpAny_call (codeAny_mono (F.run X.A X.stack s H args us vs Q E hr hgd I.env0 hb r h) fun r s' hq => ?_)
  cases r with
  | error e => exact hx pins σ H s e s' I hq
  | ok fl =>
    cases fl with
    | ret u => exact I.after hq
    | next => exact False.elim hq
    | brk => exact False.elim hq
    | cont => exact False.elim hq
/-- f(e, ..) -/
theorem pe_g (F : FnG X.prog X.w X.K X.mg X.base CX g k f fd ps sp) (hr : Room k X.A) (hgd : g = true → X.A.guards = some []) (hg : Gl X x) (hm : X.mg x = some (.ref f)) (hk : PySem.W.keepIn X.K (.ref f) = true) (hb : Binds X.K fd ps ds) (hd : Vals dvs ds) (hx : Passes CX X E)
    (ha : PA X (e :: es) t) (hdb : (x == ("__debug__" : Str)) = false := by decide) (he : starEach (e :: es) X.env = (false, eval e X.env) :: starEach es X.env := by rfl) (hpl : (backTo pos (starEach es X.env)).any (·.1) = false := by rfl) :
    PE X (.Call (.Name x p) (e :: es) [] pos) (tCall sp dvs E t) := by
  refine ⟨fun pins s σ H Q I h => wpAny_Call_Name_kw (ld_glob I hg hm ?_ hdb)⟩
  refine PySem.W.callWith_K (h₀ := X.base) I.ok.mod.kin hk (thn (ha.run pos pins s σ H _ I h) fun us s1 ⟨vs, H1, I1, r, q⟩ => ⟨I1.kIn, ?_⟩) he hpl
  have r2 : Vals (vs ++ dvs) (us ++ ds) := r.append hd
  exact run_g (args := ⟨us, []⟩) F hr hgd hx I1 (hb s1 us I1.kIn (by rw [← r2.length]; exact F.len _ _ _ _ q)) r2 q
/-- f(k = v, ..): perm puts the keywords' values in the parameters' order -/
structure KwB (K : PySem.W.Frag) (fd : FuncData) (ps ks : List Str) (perm : {α : Type} → List α → List α) : Prop where
  to : ∀ (s : Shared) (ws : List Value), K.In s.heap → ws.length = ks.length → BindsTo s fd ⟨[], ks.zip ws⟩ (ps.zip (perm ws))
  rel : ∀ {zs : List V} {ws : List Value}, Vals zs ws → Vals (perm zs) (perm ws)
def tCallKw (n : Nat) (sp : Sp) (perm : {α : Type} → List α → List α) (E : XK) (tk : TA) : TE := fun σ H Q => tk σ H fun zs H1 => zs.length = n ∧ sp (perm zs) H1 Q E
theorem pe_gkw {perm : {α : Type} → List α → List α} (F : FnG X.prog X.w X.K X.mg X.base CX g k f fd ps sp) (hr : Room k X.A) (hgd : g = true → X.A.guards = some []) (hg : Gl X x) (hm : X.mg x = some (.ref f)) (hk : PySem.W.keepIn X.K (.ref f) = true) (hb : KwB X.K fd ps ks perm) (hx : Passes CX X E)
    (hkw : PK X kws tk) (hall : (backToKw pos (keywordEach kws X.env)).all (·.1.isSome) = true := by rfl) (hks : (backToKw pos (keywordEach kws X.env)).filterMap (·.1) = ks := by rfl) (hdb : (x == ("__debug__" : Str)) = false := by decide)
    (hpl : (backToKw pos (keywordEach kws X.env)).any (·.1.isNone) = false := by rfl) : PE X (.Call (.Name x p) [] kws pos) (tCallKw ks.length sp perm E tk) := by
  refine ⟨fun pins s σ H Q I h => wpAny_Call_Name_kw (ld_glob I hg hm ?_ hdb)⟩
  refine PySem.W.callWith_KW0 (h₀ := X.base) I.ok.mod.kin hk hall ?_ hpl
  refine thn (hkw.run pos pins s σ H _ I h) fun ws s2 ⟨zs, H2, I2, rz, lz, q2⟩ => ⟨I2.kIn, ?_⟩
  rw [hks]
  exact run_g (args := ⟨[], ks.zip ws⟩) F hr hgd hx I2 (hb.to s2 ws I2.kIn (by rw [← rz.length]; exact lz)) (hb.rel rz) q2
end
/-! ### promises over data -/
/-- the arguments of a call: data, raw values -/
def argS : List Sl → Option (List Sl)
  | [] => some []
  | s :: ss => match s with
    | .va v => (argS ss).map fun r => .va v :: r
    | .vs v => (argS ss).map fun r => .vs v :: r
    | .da d => (argS ss).map fun r => .da d :: r
    | .ow o => match o.fr with
      | some d => (argS ss).map fun r => .da d :: r
      | none => none
    | _ => none
/-- what such an argument is -/
def ArgR (K : PySem.W.Frag) (Hd : Hp) : V → Sl → Prop
  | v, .da d => Dq K Hd v d
  | v, .va w => v = w
  | v, .vs xs => ∃ a, v = .ref a ∧ SqT K Hd a xs
  | _, _ => False
def ArgsR (K : PySem.W.Frag) (Hd : Hp) : List V → List Sl → Prop
  | [], [] => True
  | v :: vs, s :: ss => ArgR K Hd v s ∧ ArgsR K Hd vs ss
  | _, _ => False
theorem ArgsR.length {K : PySem.W.Frag} {Hd : Hp} : ∀ {vs : List V} {ss : List Sl}, ArgsR K Hd vs ss → vs.length = ss.length
  | [], [], _ => rfl
  | _ :: _, _ :: _, ⟨_, t⟩ => by simp [ArgsR.length t]
  | [], _ :: _, h => h.elim
  | _ :: _, [], h => h.elim
theorem ArgR.mono {K : PySem.W.Frag} {Hd Hd' : Hp} (sb : Sub Hd Hd') {v : V} {s : Sl} (h : ArgR K Hd v s) : ArgR K Hd' v s := by
  cases s with
  | da d => exact Dq.mono sb _ _ h
  | va w => exact h
  | vs xs => obtain ⟨a, e, q⟩ := h; exact ⟨a, e, sb.seqT q⟩
  | _ => exact h.elim
/-- what exceptions are made of, and the tables of code objects -/
structure XT where
  f : Addr → Str
  T : List (Addr × Str)
/-- the heaps have grown, but for what stands at B -/
structure Gr (T : List (Addr × Str)) (B : List Addr) (Hd H Hd' H' : Hp) : Prop where
  s1 : Sub Hd Hd'
  s2 : Sub Hd' H'
  s3 : ∀ b o, nT o = true → b ∉ B → H b = some o → H' b = some o
  n : ∀ b o, nT o = true → H b = some o → Hd' b = Hd b
  tb : LamX.Tabs T H'
theorem Gr.sub {T : List (Addr × Str)} {Hd H Hd' H' : Hp} (g : Gr T [] Hd H Hd' H') : Sub H H' := fun b o t e => g.s3 b o t (by simp) e
theorem En.gr {C : DC} {B : List Addr} {Hd Hd' H H' : Hp} {T : List (Addr × Str)} {σ : L2.St} {ρ : Rho} {vs : List V} {ss : List Sl} (E : En C Hd H σ ρ vs ss) (g : Gr T [] Hd H Hd' H') (e : C.T = T) : En C Hd' H' σ ρ vs ss := E.grow g.s1 g.sub g.s2 g.n (e ▸ g.tb)
theorem En.toGr {K : PySem.W.Frag} {B : List Addr} {Hd Hd' H H' : Hp} {T : List (Addr × Str)} {σ : L2.St} {ρ : Rho} {vs : List V} {ss : List Sl} (E : En ⟨K, H, B, Hd, T⟩ Hd' H' σ ρ vs ss) : Gr T B Hd H Hd' H' := ⟨E.ext, E.sub, fun b o t n e => E.keep b o t n e, E.new, E.tabs⟩
abbrev PD := List Sl → (D → Prop) → (Addr → D → Prop) → Prop
def spD (K : PySem.W.Frag) (xf : XT) (P : PD) : Sp := fun vs H Q E => ∃ Hd rs Qd Ed, Sub Hd H ∧ LamX.Tabs xf.T H ∧ ArgsR K Hd vs rs ∧
  (∀ d v Hd' H', Qd d → Gr xf.T [] Hd H Hd' H' → Dq K Hd' v d → Q v H') ∧
  (∀ c d v dx Hd' H', Ed c d → Gr xf.T [] Hd H Hd' H' → Dq K Hd' v d → NN H dx → H' dx = some (.xd [(xf.f c, v)]) → E (.ref c) (some dx) H') ∧ P rs Qd Ed
/-- the first argument is lent -/
abbrev PB := Ow → List Sl → (D → Ow → Prop) → (Addr → D → Prop) → Prop
def spB (K : PySem.W.Frag) (xf : XT) (P : PB) : Sp := fun vs H Q E => ∃ Hd o a vs' rs Qd Ed, vs = .ref a :: vs' ∧ Sub Hd H ∧ LamX.Tabs xf.T H ∧ Own K Hd H (.ref a) o [a] ∧ NN Hd a ∧ ArgsR K Hd vs' rs ∧
  (∀ d o' v Hd' H', Qd d o' → Gr xf.T [a] Hd H Hd' H' → Own K Hd' H' (.ref a) o' [a] → Dq K Hd' v d → Q v H') ∧ P o rs Qd Ed
theorem own_one {K : PySem.W.Frag} {Hd H : Hp} {v : V} {o : Ow} {fp : List Addr} {a : Addr} (h : Own K Hd H v o fp) (c : ∀ b, fp.count b ≤ 1) (s : ∀ b ∈ fp, b = a) : v = .ref a ∧ fp = [a] := by
  have tail : ∀ {b : Addr} {bs : List Addr}, fp = b :: bs → bs = [] := fun {b bs} e => by
    cases bs with
    | nil => rfl
    | cons b' bs =>
      have e1 := s b (by rw [e]; simp)
      have e2 := s b' (by rw [e]; simp)
      have q := c a
      rw [e, e1, e2] at q
      simp only [List.count_cons_self] at q
      omega
  cases o with
  | l ds => obtain ⟨b, vs, rfl, e, _⟩ := h; have := s b (by rw [e]; simp); subst this; exact ⟨rfl, e⟩
  | ll dss => obtain ⟨b, as, rfl, e, _⟩ := h; have := s b (by rw [e]; simp); subst this; exact ⟨rfl, by rw [e, tail e]⟩
  | dk kvs => obtain ⟨b, kvv, rfl, e, _⟩ := h; have := s b (by rw [e]; simp); subst this; exact ⟨rfl, e⟩
  | st n => obtain ⟨b, l, c', t, rfl, e, _⟩ := h; have := s b (by rw [e]; simp); subst this; exact ⟨rfl, e⟩
/-- what leaves a def by an exception -/
structure XW (C : DC) (E : XK) (xf : XT) (Ed : Addr → D → Prop) : Prop where
  T : C.T = xf.T
  x : ∀ (Hd H : Hp) (σ : L2.St) (ρ : Rho) (vs : List V) (ss : List Sl) (c : Addr) (d : D) (v : V) (dx : Addr), Ed c d → En C Hd H σ ρ vs ss → Dq C.K Hd v d → NN C.F dx → H dx = some (.xd [(xf.f c, v)]) → E (.ref c) (some dx) H
section
variable {C : DC} {Hd H : Hp} {σ : L2.St} {ρ : Rho}
theorem En.args : ∀ {rs rs' : List Sl} {ws vs : List V} {ss : List Sl} {Hd : Hp}, En C Hd H σ ρ (ws ++ vs) (rs ++ ss) → ws.length = rs.length → argS rs = some rs' → ∃ Hd', Sub Hd Hd' ∧ En C Hd' H σ ρ vs ss ∧ ArgsR C.K Hd' ws rs'
  | [], _, [], _, _, Hd, E, _, e => by cases e; exact ⟨Hd, Sub.refl _, E, trivial⟩
  | s :: rs, rs', w :: ws, vs, ss, Hd, E, l, e => by
    have E0 : En C Hd H σ ρ (w :: (ws ++ vs)) (s :: (rs ++ ss)) := E
    have go : ∀ {Hd1 : Hp} {s' : Sl}, Sub Hd Hd1 → En C Hd1 H σ ρ (ws ++ vs) (rs ++ ss) → ArgR C.K Hd1 w s' → ((argS rs).map fun r => s' :: r) = some rs' → ∃ Hd', Sub Hd Hd' ∧ En C Hd' H σ ρ vs ss ∧ ArgsR C.K Hd' (w :: ws) rs' := by
      intro Hd1 s' sb E1 h1 e1
      cases er : argS rs with
      | none => rw [er] at e1; cases e1
      | some r =>
        rw [er] at e1
        cases e1
        obtain ⟨Hd2, s2, E2, a2⟩ := En.args E1 (by simpa using l) er
        exact ⟨Hd2, sb.trans s2, E2, h1.mono s2, a2⟩
    cases s with
    | va v => exact go (s' := .va v) (Sub.refl _) E0.drop E0.topV e
    | vs xs => exact go (s' := .vs xs) (Sub.refl _) E0.drop E0.topVs e
    | da d => exact go (s' := .da d) (Sub.refl _) E0.drop E0.top e
    | ow o =>
      cases ho : o.fr with
      | none => simp only [argS, ho] at e; cases e
      | some d =>
        simp only [argS, ho] at e
        obtain ⟨Hd1, s1, E1⟩ := E0.fz (d := d) ho
        exact go (s' := .da d) s1 E1.drop E1.top e
    | un => cases e
    | bo o => cases e
  | [], _, _ :: _, _, _, _, _, l, _ => by simp at l
  | _ :: _, _, [], _, _, _, _, l, _ => by simp at l
theorem ls_args {xs : List V} {K : PySem.W.Frag} {C : DC} (hC : C.K = K) : ∀ {vs : List V} {ss : List Sl}, ArgsR K Hd vs ss → Ls C Hd H (vs.map some) ss []
  | [], [], _ => rfl
  | v :: vs, s :: ss, ⟨h, t⟩ => ⟨[], [], rfl, by
      cases s with
      | da d => exact ⟨rfl, v, rfl, hC ▸ h⟩
      | va w => exact ⟨rfl, congrArg some h⟩
      | vs xs => obtain ⟨a, e, q⟩ := h; subst e; exact ⟨rfl, a, rfl, hC ▸ q⟩
      | _ => exact h.elim, ls_args (xs := xs) hC t⟩
  | [], _ :: _, h => h.elim
  | _ :: _, [], h => h.elim
theorem ls_un {C : DC} : ∀ n : Nat, Ls C Hd H (List.replicate n none) (List.replicate n .un) []
  | 0 => rfl
  | n + 1 => ⟨[], [], rfl, rfl, ls_un n⟩
end
section
variable {P : Program} {w : World} {K : PySem.W.Frag} {mg : Str → Option Value} {base : Heap} {g : Bool} {k : Nat} {f : Addr} {fd : FuncData} {ps N : List Str} {xf : XT} {x qual : Str} {st : Stmt}
/-- THE RULE: a def over data, by its body -/
theorem _root_.L2.Fun.okD {Pd : PD} (F : Fun K x qual st f fd) (S : FnScope N ps (defScope st)) (len : ∀ rs Qd Ed, Pd rs Qd Ed → rs.length = ps.length)
    (hbody : ∀ (cdv : Value) (A : Around) (outer : List Env) (s : Shared) (H Hd : Hp) (E : XK) (rs : List Sl) (Qd : D → Prop) (Ed : Addr → D → Prop), fd.code = cdv → Room k (A.deeper (envOfC qual (defScope st) s.heap.objs.size f cdv)) → (g = true → A.guards = some []) → XW ⟨K, H, [], Hd, xf.T⟩ E xf Ed → Pd rs Qd Ed →
      ∃ t, PSs (cxOf (L2.CX P w) P w K mg base N qual (defScope st) f cdv A outer s H E) (defBody st) (LS ⟨K, H, [], Hd, xf.T⟩ t) ∧
        t { nx := fun _ => Qd .none, rt := fun s _ => match s.toD with | some d => Qd d | none => False } (rs ++ List.replicate (N.length - rs.length) .un)) :
    FnG P w K mg base (L2.CX P w) g (k + 1) f fd ps (spD K xf Pd) := by
  refine F.okG S (fun vs H Q E ⟨Hd, rs, Qd, Ed, _, _, ha, _, _, hp⟩ => ha.length.trans (len _ _ _ hp)) fun cdv A outer s H vs Q E hcd hr hgd ⟨Hd, rs, Qd, Ed, sb, tb, ha, hq, he, hp⟩ => ?_
  have xw : XW ⟨K, H, [], Hd, xf.T⟩ E xf Ed := ⟨rfl, fun Hd' H' σ ρ ws ss c d v dx ed E1 dv fx hx => he c d v dx Hd' H' ed E1.toGr dv fx hx⟩
  obtain ⟨t, ht, q⟩ := hbody cdv A outer s H Hd E rs Qd Ed hcd hr hgd xw hp
  refine ⟨_, ht, Hd, _, [], [], _, ⟨fun a o _ _ e => e, fun a o t e => ⟨o, t, e⟩, Sub.refl _, fun _ _ _ _ => rfl, sb, tb, [], [], rfl, ?_, fun a => by simp, fun a ha => by simp at ha⟩, ⟨fun ρ σ Hd' H' (q : Qd .none) E1 => ?_, fun _ _ _ _ q _ => False.elim q, fun _ _ _ _ q _ => False.elim q, fun s ρ v σ Hd' H' (q : match s.toD with | some d => Qd d | none => False) E1 => ?_⟩, q⟩
  · unfold L2.start
    have l : rs.length = vs.length := ha.length.symm
    rw [l]
    exact (ls_args (xs := []) (C := ⟨K, H, [], Hd, xf.T⟩) (K := K) rfl ha).append (ls_un (N.length - vs.length))
  · exact hq _ _ _ _ q E1.toGr .non
  · cases es : s.toD with
    | none => rw [es] at q; exact q.elim
    | some d =>
      rw [es] at q
      obtain ⟨Hd2, _, E2⟩ := E1.fz es
      exact hq d v Hd2 H' q E2.toGr E2.top
theorem _root_.L2.Fun.okB {Pd : PB} (F : Fun K x qual st f fd) (S : FnScope N ps (defScope st)) (len : ∀ o rs Qd Ed, Pd o rs Qd Ed → rs.length + 1 = ps.length)
    (hbody : ∀ (cdv : Value) (A : Around) (outer : List Env) (s : Shared) (H Hd : Hp) (E : XK) (B : List Addr) (o : Ow) (rs : List Sl) (Qd : D → Ow → Prop) (Ed : Addr → D → Prop), fd.code = cdv → Room k (A.deeper (envOfC qual (defScope st) s.heap.objs.size f cdv)) → (g = true → A.guards = some []) → Pd o rs Qd Ed →
      ∃ t, PSs (cxOf (L2.CX P w) P w K mg base N qual (defScope st) f cdv A outer s H E) (defBody st) (LS ⟨K, H, B, Hd, xf.T⟩ t) ∧
        t { nx := fun (ρ : Rho) => match ρ[0]? with | some (Sl.bo o') => Qd .none o' | _ => False, rt := fun (s : Sl) (ρ : Rho) => match s.toD with | some d => (match ρ[0]? with | some (Sl.bo o') => Qd d o' | _ => False) | none => False } (.bo o :: (rs ++ List.replicate (N.length - (rs.length + 1)) .un))) :
    FnG P w K mg base (L2.CX P w) g (k + 1) f fd ps (spB K xf Pd) := by
  refine F.okG S (fun vs H Q E ⟨Hd, o, a, vs', rs, Qd, Ed, ev, _, _, _, _, ha, _, hp⟩ => by rw [ev, List.length_cons, ha.length]; exact len _ _ _ _ hp) fun cdv A outer s H vs Q E hcd hr hgd ⟨Hd, o, a, vs', rs, Qd, Ed, ev, sb, tb, ow, hn, ha, hq, hp⟩ => ?_
  subst ev
  obtain ⟨t, ht, q⟩ := hbody cdv A outer s H Hd E [a] o rs Qd Ed hcd hr hgd hp
  -- what the lent object is at the end
  have fin : ∀ {Hd' H' : Hp} {σ : L2.St} {ρ : Rho} {ws : List V} {ss : List Sl} {o' : Ow} {d : D} {v : V}, En ⟨K, H, [a], Hd, xf.T⟩ Hd' H' σ ρ ws ss → ρ[0]? = some (.bo o') → Qd d o' → Dq K Hd' v d → Q v H' := fun {Hd' H' σ ρ ws ss o' d v} E1 e0 qd dv => by
    obtain ⟨f1, g1, h2, h3, h4, h5⟩ := E1.sep
    obtain ⟨y, f2, g2, g3, rfl, _, ⟨⟨v1, _, h6⟩, h7⟩, _⟩ := h3.at e0
    obtain ⟨rfl, rfl⟩ := own_one (a := a) h6 (fun b => by have := h4 b; simp only [List.count_append] at this; omega) fun b hb => by simpa using h7 b hb
    exact hq d o' v Hd' H' qd E1.toGr h6 dv
  refine ⟨_, ht, Hd, _, [], [], _, ⟨fun b o _ _ e => e, fun b o t e => ⟨o, t, e⟩, Sub.refl _, fun _ _ _ _ => rfl, sb, tb, [], [a], rfl, ?_, fun b => by simp only [List.nil_append, List.count_cons, List.count_nil]; split <;> omega, fun b hb => by simp at hb; subst hb; exact hn⟩, ⟨fun (ρ : Rho) σ Hd' H' (q : match ρ[0]? with | some (Sl.bo o') => Qd .none o' | _ => False) E1 => ?_, fun _ _ _ _ q _ => False.elim q, fun _ _ _ _ q _ => False.elim q,
    fun (s : Sl) (ρ : Rho) v σ Hd' H' (q : match s.toD with | some d => (match ρ[0]? with | some (Sl.bo o') => Qd d o' | _ => False) | none => False) E1 => ?_⟩, q⟩
  · unfold L2.start
    have l : rs.length = vs'.length := ha.length.symm
    rw [l]
    refine ⟨[a], [], rfl, ⟨⟨_, rfl, ow⟩, fun b hb => hb⟩, ?_⟩
    show Ls _ _ _ (vs'.map some ++ List.replicate (N.length - (vs'.length + 1)) none) _ _
    exact (ls_args (xs := []) (C := ⟨K, H, [a], Hd, xf.T⟩) (K := K) rfl ha).append (ls_un _)
  · split at q
    · rename_i o' e0
      exact fin E1 e0 q .non
    · exact q.elim
  · cases es : s.toD with
    | none => rw [es] at q; exact q.elim
    | some d =>
      rw [es] at q
      obtain ⟨Hd2, _, E2⟩ := E1.fz es
      simp only at q
      split at q
      · rename_i o' e0
        exact fin E2 e0 q E2.top
      · exact q.elim
end
/-! ### calls -/
section
variable {X : Cx} {C : DC} {e : Expr} {xf : XT} {E : XK} {Ed : Addr → D → Prop} {ta : TDA}
def dCall (P : PD) (Ed : Addr → D → Prop) (ta : TDA) : TD := fun ρ Q => ta ρ fun rs ρ1 => match argS rs with
  | some rs' => P rs' (fun d => Q (.da d) ρ1) Ed
  | none => False
theorem sp_le {P : PD} {Hd H : Hp} {σ : L2.St} {ρ : Rho} {ws vs : List V} {rs rs' ss : List Sl} {Q : VK} {Qd : D → Prop} (xw : XW C E xf Ed) (E1 : En C Hd H σ ρ (ws ++ vs) (rs ++ ss)) (l : ws.length = rs.length) (e : argS rs = some rs')
    (k : ∀ d v Hd' H', Qd d → En C Hd' H' σ ρ (v :: vs) (.da d :: ss) → Q v H') (q : P rs' Qd Ed) : spD C.K xf P ws H Q E := by
  obtain ⟨Hd1, _, E2, a2⟩ := E1.args l e
  refine ⟨Hd1, rs', Qd, Ed, E2.sub, xw.T ▸ E2.tabs, a2, fun d v Hd' H' qd g dv => k d v Hd' H' qd ((E2.gr (B := []) g xw.T).push dv), fun c d v dx Hd' H' ed g dv nx hx => ?_, q⟩
  refine xw.x Hd' H' σ ρ vs ss c d v dx ed (E2.gr (B := []) g xw.T) dv (fun o t z => ?_) hx
  obtain ⟨o', t', z'⟩ := E2.there dx o t z
  exact nx o' t' z'
theorem call_le {P : PD} (xw : XW C E xf Ed) {σ : L2.St} {H : Hp} {Q : VK} (h : LE C (dCall P Ed ta) σ H Q) : tCall (spD C.K xf P) [] E (LA C ta) σ H Q := by
  obtain ⟨Hd, ρ, vs, ss, Qd, E0, k, q⟩ := h
  refine ⟨Hd, ρ, vs, ss, _, E0, fun rs ρ1 ws Hd1 H1 q1 l E1 => ?_, q⟩
  show spD C.K xf P (ws ++ []) H1 Q E
  rw [List.append_nil]
  cases er : argS rs with
  | none => rw [er] at q1; exact q1.elim
  | some rs' =>
    rw [er] at q1
    exact sp_le xw E1 l er (fun d v Hd' H' qd E' => k _ ρ1 v Hd' H' qd E') q1
theorem q_call {P : PD} (xw : XW C E xf Ed) (h : PE X e (tCall (spD C.K xf P) [] E (LA C ta))) : PE X e (LE C (dCall P Ed ta)) := imp_e h fun σ H Q q => call_le xw q
/-- by keywords -/
def dCallKw (n : Nat) (perm : {α : Type} → List α → List α) (P : PD) (Ed : Addr → D → Prop) (ta : TDA) : TD := fun ρ Q => ta ρ fun rs ρ1 => cnd (Nat.beq rs.length n) (match argS rs with
  | some rs' => P (perm rs') (fun d => Q (.da d) ρ1) Ed
  | none => False) False
theorem q_callKw {n : Nat} {perm : {α : Type} → List α → List α} (hperm : ∀ {K : PySem.W.Frag} {Hd : Hp} {ws : List V} {rs : List Sl}, ArgsR K Hd ws rs → ArgsR K Hd (perm ws) (perm rs)) {P : PD} (xw : XW C E xf Ed) (h : PE X e (tCallKw n (spD C.K xf P) perm E (LA C ta))) : PE X e (LE C (dCallKw n perm P Ed ta)) :=
  imp_e h fun σ H Q ⟨Hd, ρ, vs, ss, Qd, E0, k, q⟩ => by
    refine ⟨Hd, ρ, vs, ss, _, E0, fun rs ρ1 ws Hd1 H1 q1 l E1 => ?_, q⟩
    obtain ⟨hl, q1⟩ := cnd_inv q1
    refine ⟨by rw [l]; exact Nat.eq_of_beq_eq_true hl, ?_⟩
    cases er : argS rs with
    | none => rw [er] at q1; exact q1.elim
    | some rs' =>
      rw [er] at q1
      obtain ⟨Hd2, _, E2, a2⟩ := E1.args l er
      refine ⟨Hd2, perm rs', _, Ed, E2.sub, xw.T ▸ E2.tabs, hperm a2, fun d v Hd' H' qd g dv => k _ ρ1 v Hd' H' qd ((E2.gr (B := []) g xw.T).push dv), fun c d v dx Hd' H' ed g dv nx hx => ?_, q1⟩
      refine xw.x Hd' H' σ ρ1 vs ss c d v dx ed (E2.gr (B := []) g xw.T) dv (fun o t z => ?_) hx
      obtain ⟨o', t', z'⟩ := E2.there dx o t z
      exact nx o' t' z'
end
end DL

-- XV1
set_option autoImplicit true
namespace XV
open PySem PySem.HandSPX
section
variable {M : Model} {A : Around} {E : Value → Shared → Prop} {h : Heap} {g : Array GenState} {d : Drawn} {t : Nat} {os : OsState}
variable {nm q : Str} {C N : Addr} {bs bm bmB : List Value} {hdct : Bool} {sn : List Str} {sub : List Value} {ab : Bool} {col : Option Bool} {dd : Option Addr} {k0 k1 k2 k3 k5 : Option Value} {B newId initId : String}
theorem check_new_kw (F : ExcBaseFacts B newId initId bmB) (hT : ∀ X : String, bm.contains (.type X) = bmB.contains (.type X)) {rest : List Value} {kw : List (Str × Value)} {Q : Unit → Shared → Prop}
    (hC : h.get? C = some (excClassObj nm q C N bs bm hdct sn sub ab col dd k0 k1 k2 k3 k5 newId)) (hq : Q () ⟨h, g, d, t, os⟩) : wpAny M A (checkBuiltinCall newId ⟨.ref C :: rest, kw⟩) Q E ⟨h, g, d, t, os⟩ := by
  have hcont : (Value.ref C :: bm).contains (.type B) = true := by rw [List.contains_cons, hT, F.hasB, Bool.or_true]
  have hstar := F.noStar
  simp only [checkBuiltinCall, F.newKind, F.newSplit, F.newRow]
  repeat (first | refine wpAny_loadPart_at hC ?_ | (refine wpAny_isSubtype_exc hC ?_; rw [hcont]) | refine wpAny_staticBase_exc hC ?_ | refine wpAny_madeBy_exc hC ?_ | simp only [bne_self_eq_false, Bool.false_eq_true, if_false] | wp_step)
  exact hq
theorem check_tc_kw {rest : List Value} {kw : List (Str × Value)} {Q : Unit → Shared → Prop} (hC : h.get? C = some (excClassObj nm q C N bs bm hdct sn sub ab col dd k0 k1 k2 k3 k5 newId))
    (hq : Q () ⟨h, g, d, t, os⟩) : wpAny M A (checkBuiltinCall "type.__call__" ⟨.ref C :: rest, kw⟩) Q E ⟨h, g, d, t, os⟩ := by
  have f3 := tc_sub
  have hT : (⟨h, g, d, t, os⟩ : Shared).TypeIs (.ref C) "type" := ⟨_, hC, rfl⟩
  simp only [checkBuiltinCall, tc_kind, tc_split]
  repeat (any_goals (first | assumption | with_reducible refine wpAny_loadPart_at hC ?_ | with_reducible refine wpAny_onRaise ?_ | with_reducible refine wpAny_map ?_ | wp_step))
end
section
variable {prog : Program} {w : World} {A : Around} {E : Value → Shared → Prop} {R : Result → Shared → Prop} {h : Heap} {g : Array GenState} {d : Drawn} {t : Nat} {os : OsState}
variable {nm q : Str} {C N : Addr} {bs bm bmB : List Value} {hdct : Bool} {sn : List Str} {sub : List Value} {ab : Bool} {col : Option Bool} {dd : Option Addr} {k0 k1 k2 k3 k5 : Option Value} {B newId initId : String}
theorem new_kw (F : ExcBaseFacts B newId initId bmB) (hT : ∀ X : String, bm.contains (.type X) = bmB.contains (.type X)) {rest : List Value} {kw : List (Str × Value)}
    (hC : h.get? C = some (excClassObj nm q C N bs bm hdct sn sub ab col dd k0 k1 k2 k3 k5 newId))
    (hq : R (.ok (.ret (.ref (h.objs.size + 1)))) ⟨(h.push { cls := .type "tuple", data := .seq rest.toArray }).push
      { cls := .ref C, data := .fields #[.ref h.objs.size, .none, .none, .none, .bool false, .none] }, g, d, t, os⟩) (hrest : rest.length ≤ sizeLine) :
    codeAny (model prog w) A (.builtin newId ⟨.ref C :: rest, kw⟩) R ⟨h, g, d, t, os⟩ := by
  have hends := F.ends
  have hcB : (Value.ref C :: bm).contains (.type B) = true := by rw [List.contains_cons, hT, F.hasB, Bool.or_true]
  have hcA : (Value.ref C :: bm).contains (.type "AttributeError") = false := by rw [List.contains_cons, hT, F.noAttr]; rfl
  have hcN : (Value.ref C :: bm).contains (.type "NameError") = false := by rw [List.contains_cons, hT, F.noName]; rfl
  refine codeAny_builtinAt F.entry ?_
  unfold Builtin.«BaseException.__new__»
  refine wpAt_bind ?_
  show wpAt _ _ _ (stack >>= _) _ _ _
  refine wpAt_bind (wpAt_stack fun p below => wpAt_of_wpAny ?_)
  wp_walk
  refine wpAt_of_wpAny ?_
  rw [F.owner]
  repeat (first | with_reducible refine wpAny_madeHere_exc F.canon hC ?_ | with_reducible refine wpAny_loadPart_at hC ?_ | (with_reducible refine wpAny_isSubtype_exc hC ?_; first | rw [hcB] | rw [hcA] | rw [hcN]) | wp_step)
  show R _ _
  rw [Heap.size_push]
  exact hq
theorem type_call_kw (F : ExcBaseFacts B newId initId bmB) (hT : ∀ X : String, bm.contains (.type X) = bmB.contains (.type X)) {rest : List Value} {kw : List (Str × Value)} {fI : Addr} {Q : Fin → Shared → Prop}
    (hC : h.get? C = some (excClassObj nm q C N bs bm hdct sn sub ab col dd k0 k1 k2 k3 k5 newId))
    (hi : W.Looks (model prog w) h (typeLookup (.ref C) "__init__") (some (.ref fI))) (hb : ∀ self, W.Looks (model prog w) h (bindSpecial (.ref fI) self) (.ref fI, [self])) (hrest : rest.length ≤ sizeLine)
    (hq : codeAny (model prog w) A (.call (.ref fI) ⟨.ref (h.objs.size + 1) :: rest, kw⟩)
      (fun r s' => match r with | .ok (.ret v) => v = .none ∧ Q (.done (.ret (.ref (h.objs.size + 1)))) s' | .ok _ => False | .error e => E e s')
      ⟨(h.push (W.kdv_tup rest)).push (excO C h.objs.size), g, d, t, os⟩) :
    wpAny (model prog w) A (Builtin.«type.__call__» ⟨.ref C :: rest, kw⟩) Q E ⟨h, g, d, t, os⟩ := by
  repeat (first | with_reducible refine wpAny_loadPart_at hC ?_ | with_reducible refine wpAny_madeBy_exc hC ?_ | wp_step)
  refine codeAny_call_builtin_code (Code.quiet_builtin _ F.quiet) (check_new_kw F hT hC ?_)
  refine new_kw F hT hC ?_ hrest
  show wpAny _ _ _ _ _ _
  have k : ∀ b o, h.get? b = some o → ((h.push (W.kdv_tup rest)).push (excO C h.objs.size)).get? b = some o := fun b o e => Heap.get?_push_of_some _ (Heap.get?_push_of_some _ e)
  have hC₁ := k _ _ hC
  have hget : ((h.push (W.kdv_tup rest)).push (excO C h.objs.size)).get? (h.objs.size + 1) = some (excO C h.objs.size) := by heap_get
  have hcC : (Value.ref C :: bm).contains (.ref C) = true := by simp
  have i1 := hi.keeps k
  have b1 := (hb (.ref (h.objs.size + 1))).keeps k
  unfold isInstance
  repeat (first | with_reducible refine wpAny_loadPart_at hget ?_ | (with_reducible refine wpAny_isSubtype_exc hC₁ ?_; rw [hcC]) | wp_step)
  show wpAny _ _ (typeLookup (.ref C) _) _ _ _
  refine i1.at ?_
  refine wpAny_holding (wpAny_bind (b1.at ?_))
  refine wpAny_bind (wpAny_call (codeAny_mono hq fun r s' z => ?_))
  rcases r with e | (v | _ | _ | _) <;> first | exact z | exact z.elim | skip
  obtain ⟨rfl, z⟩ := z
  first
    | exact wpAny_pure (wpAny_pure z)
    | (wp_walk; exact z)
/-- an own exception class called, with keywords -/
theorem call_kw (F : ExcBaseFacts B newId initId bmB) (hT : ∀ X : String, bm.contains (.type X) = bmB.contains (.type X)) {rest : List Value} {kw : List (Str × Value)} {fI : Addr}
    (hC : h.get? C = some (excClassObj nm q C N bs bm hdct sn sub ab col dd k0 k1 k2 k3 k5 newId))
    (hi : W.Looks (model prog w) h (typeLookup (.ref C) "__init__") (some (.ref fI))) (hb : ∀ self, W.Looks (model prog w) h (bindSpecial (.ref fI) self) (.ref fI, [self])) (hrest : rest.length ≤ sizeLine)
    (hq : codeAny (model prog w) (A.under (.builtin "type.__call__" ⟨.ref C :: rest, kw⟩)) (.call (.ref fI) ⟨.ref (h.objs.size + 1) :: rest, kw⟩) (W.InitBack (h.objs.size + 1) R)
      ⟨(h.push (W.kdv_tup rest)).push (excO C h.objs.size), g, d, t, os⟩) :
    codeAny (model prog w) A (.call (.ref C) ⟨rest, kw⟩) R ⟨h, g, d, t, os⟩ := by
  have f1 := tc_lookup
  have f2 := tc_bind (.ref C)
  have hTy : (⟨h, g, d, t, os⟩ : Shared).TypeIs (.ref C) "type" := ⟨_, hC, rfl⟩
  refine codeAny_of_tree ?_
  show wpAny _ _ (callAny (.ref C) _) _ _ _
  repeat (any_goals (first | assumption | with_reducible refine wpAny_loadPart_at hC ?_ | wp_step))
  refine ⟨rfl, ?_⟩
  refine codeAny_call_builtin_at (Code.quiet_builtin _ (by decide +kernel)) entry_typeCall (check_tc_kw hC (type_call_kw F hT hC hi hb hrest ?_))
  refine codeAny_mono hq fun r s' z => ?_
  rcases r with e | (v | _ | _ | _) <;> exact z
/-- X.__init__(e, ..), X a built-in exception class: the args are laid anew, as a new tuple -/
theorem init_tup (F : ExcBaseFacts B newId initId bmB) (hT : ∀ X : String, bm.contains (.type X) = bmB.contains (.type X)) {e t0 : Addr} {rest : List Value}
    (hC : h.get? C = some (excClassObj nm q C N bs bm hdct sn sub ab col dd k0 k1 k2 k3 k5 newId)) (he : h.get? e = some (excO C t0)) (hrest : rest.length ≤ sizeLine)
    (hq : ∀ h', (∀ b o, b ≠ e → h.get? b = some o → h'.get? b = some o) → h'.get? e = some (excO C h.objs.size) → h'.get? h.objs.size = some { cls := .type "tuple", data := .seq rest.toArray } → R (.ok (.ret .none)) ⟨h', g, d, t, os⟩) :
    codeAny (model prog w) A (.call (.builtin initId) ⟨.ref e :: rest, []⟩) R ⟨h, g, d, t, os⟩ := by
  refine codeAny_call_builtin F.init.plain F.initEntry (check_init_own F hT hC he rfl ?_)
  have hne : h.objs.size ≠ e := Nat.ne_of_gt (Heap.lt_size he)
  wp_walk
  refine hq _ (fun b o hb ho => ?_) ?_ ?_
  · rw [Heap.get?_update_other _ _ (Ne.symm hb)]
    exact Heap.get?_push_of_some _ ho
  · rw [Heap.get?_update_self _ (Heap.get?_push_of_some _ he) rfl]
    rfl
  · rw [Heap.get?_update_other _ _ (Ne.symm hne)]
    exact Heap.get?_push_size h rfl
end

/-! ### self.name = v on an exception that has no dict yet -/
section
open Builtin Builtin.ObjectAttr
variable {prog : Program} {w : World} {A : Around} {E : Value → Shared → Prop} {R : Result → Shared → Prop} {hp : Heap} {g : Array GenState} {d : Drawn} {t : Nat} {os : OsState}
theorem exc_osaT {K : W.Frag} {name : Str} {tk : Tok} {v : Value} {x C : Addr} {fv : Array Value} {cd : ClassData}
    (X : K.In hp) (hx : hp.get? x = some { cls := .ref C, data := .fields fv }) (hcd : W.clsIn K C = some cd) (hpass : refuseLoop (.ref x) "__setattr__" cd.mro = pure ()) (ne : cd.mro.isEmpty = false) (hob : cd.mro.contains (.type "object") = true)
    (hh : cd.hasDict = true) (ha : W.findIn K (.ref C) name = some none)
    (hq : ∀ h' tk' dx, (∀ b o, b ≠ x → hp.get? b = some o → h'.get? b = some o) → hp.objs.size ≤ dx → dx ≠ x → h'.get? x = some { cls := .ref C, dict := some dx, data := .fields fv } →
      h'.Ns1 dx (fun y => if y = name then some v else none) → R (.ok (.ret .none)) ⟨h', g, d, tk', os⟩) :
    codeAny (model prog w) A (.call (.builtin "object.__setattr__") ⟨[.ref x, .str name tk, v], []⟩) R ⟨hp, g, d, t, os⟩ := by
  have I : W.InstAt hp x { cls := .ref C, data := .fields fv } C none := ⟨hx, rfl, rfl, trivial⟩
  have SF := F.store_object
  have hxs : x ≠ hp.objs.size := Nat.ne_of_lt (Heap.lt_size hx)
  have sub : W.Looks (model prog w) hp (isInstance (.ref x) (.type "object")) true := I.type.andThen (W.looks_mroIn X (by unfold W.mroIn; rw [hcd, Option.bind_some, if_neg (by rw [ne]; decide), hob]))
  refine codeAny_call_builtin SF.slot.plain SF.entry (@W.check_slot (model prog w) _ _ ⟨hp, g, d, t, os⟩ "object.__setattr__" "object" "__setattr__" (.ref x) [.str name tk, v] [] _ SF.kind SF.split sub (SF.args (.ref x) (.str name tk) v) ?_)
  have hmr : W.Looks (model prog w) hp (mroOf (.ref C)) cd.mro := (W.looks_clsIn X hcd).andThen .now
  have L3 : W.Looks (model prog w) hp (storeTaker? none) none := .now
  have hcls : W.Looks (model prog w) hp (classData C) cd := W.looks_clsIn X hcd
  rw [W.osa_eq, refuse_eq]
  refine wpAny_bind (wpAny_bind (I.type.at (wpAny_bind (hmr.at ?_))))
  rw [hpass]
  refine wpAny_pure (wpAny_bind (I.type.at (wpAny_bind ((W.looks_findIn X ha).at (wpAny_bind (L3.at ?_))))))
  show wpAny _ _ (storeInOwnDict (.ref x) (.ref C) (.str name tk) name v false) _ _ _
  obtain ⟨nm, bs, mro, ns, qn, hd, sn, sb, ab, col, del⟩ := cd
  dsimp only at hh
  subst hh
  unfold storeInOwnDict ownDictForStores
  repeat (first | with_reducible refine store_in_new ?_ ?_ | with_reducible refine wpAny_loadPart_at hx ?_ | with_reducible refine hcls.at ?_ | wp_step)
  · exact ⟨_, #[], _, (Heap.get?_update_ne _ _ _ _ hxs.symm).trans (Heap.get?_push_at rfl rfl), rfl, fun e he => absurd he (by simp), fun _ => rfl⟩
  · intro h' tk' hn' hs
    have hx₁ : (hp.push { cls := .type "dict", data := .dict #[] }).get? x = some { cls := .ref C, data := .fields fv } := Heap.get?_push_of_some _ hx
    refine hq h' tk' hp.objs.size (fun b o hb ho => ?_) (Nat.le_refl _) hxs.symm ?_ hn'
    · exact (hs.2 b (Nat.ne_of_lt (Heap.lt_size ho))).trans ((Heap.get?_update_ne _ _ _ _ hb).trans (Heap.get?_push_of_some _ ho))
    · exact (hs.2 x hxs).trans (Heap.get?_update_self _ hx₁ rfl)
end
/-- what the three bases must have -/
structure Base (B newId initId : String) (tail : List Value) : Prop where
  F : ExcBaseFacts B newId initId tail
  pass : ∀ self, refuseLoop self "__setattr__" tail = pure ()
  ob : tail.contains (.type "object") = true
  ex : tail.contains (.type "BaseException") = true
abbrev ofTail : List Value := [.type "OverflowError", .type "ArithmeticError", .type "Exception", .type "BaseException", .type "object"]
abbrev luTail : List Value := [.type "LookupError", .type "Exception", .type "BaseException", .type "object"]
theorem base_VE : Base "ValueError" "ValueError.__new__" "ValueError.__init__" veTail := ⟨F.excBase_ValueError, F.store_ValueError.passes, by decide +kernel, by decide +kernel⟩
theorem base_OF : Base "OverflowError" "OverflowError.__new__" "OverflowError.__init__" ofTail := ⟨F.excBase_OverflowError, F.store_OverflowError.passes, by decide +kernel, by decide +kernel⟩
theorem base_LU : Base "LookupError" "LookupError.__new__" "LookupError.__init__" luTail := ⟨F.excBase_LookupError, F.store_LookupError.passes, by decide +kernel, by decide +kernel⟩
end XV

-- XV2
set_option autoImplicit true
namespace XV
open PySem PySem.Spec PyProof.Rows L2
/-! ### exceptions held as values -/
/-- at e: an exception of the class at C, its args the tuple at t, its dict d -/
def exq (e C t : Addr) (d : Option Addr) : HO := .ext fun h => h.get? e = some ({ cls := .ref C, dict := d, data := .fields #[.ref t, .none, .none, .none, .bool false, .none] } : Obj)
theorem exq_ok {P : Program} {w : World} {H : Hp} {h : Heap} {e C t : Addr} {d : Option Addr} (he : h.get? e = some ({ cls := .ref C, dict := d, data := .fields #[.ref t, .none, .none, .none, .bool false, .none] } : Obj)) : ObjOk P w H h e (exq e C t d) :=
  ⟨he, ⟨_, he⟩, fun _ _ z k => k _ z⟩
theorem exq_at {P : Program} {w : World} {H : Hp} {h : Heap} {e C t : Addr} {d : Option Addr} (hok : HOk P w H h) (he : H e = some (exq e C t d)) : h.get? e = some ({ cls := .ref C, dict := d, data := .fields #[.ref t, .none, .none, .none, .bool false, .none] } : Obj) := by
  have x : ObjOk P w H h e (.ext fun h => h.get? e = some ({ cls := .ref C, dict := d, data := .fields #[.ref t, .none, .none, .none, .bool false, .none] } : Obj)) := hok e _ he
  exact x.1
theorem exq_own {e C t x : Addr} {d : Option Addr} : exq e C t d ≠ .own x := fun z => by
  have z' : HO.ext _ = HO.own x := z
  cases z'
theorem exq_tup {e C t : Addr} {d : Option Addr} {xs : List V} : exq e C t d ≠ .tup xs := fun z => by
  have z' : HO.ext _ = HO.tup xs := z
  cases z'
theorem exq_frz {e C t : Addr} {d : Option Addr} {o : Obj} {u : HO} : exq e C t d ≠ .frz o u := fun z => by
  have z' : HO.ext _ = HO.frz o u := z
  cases z'
theorem exq_tbl {e C t : Addr} {d : Option Addr} {ps : Array Value} : exq e C t d ≠ .tbl ps := fun z => by
  have z' : HO.ext _ = HO.tbl ps := z
  cases z'
/-- what the written part says of such a class: id is its built-in base's __init__ -/
structure XCls (K : PySem.W.Frag) (C : Addr) (id : String) : Prop where
  cls : ∃ (B newId : String) (tail : List Value) (nm q : Str) (N : Addr) (bs : List Value) (cs : List Addr) (sn : List Str) (sub : List Value) (ab : Bool) (col : Option Bool) (dd : Option Addr) (k0 k1 k2 k3 k5 : Option Value), Base B newId id tail ∧ K.lookup C = some (excClassObj nm q C N bs (cs.map Value.ref ++ tail) true sn sub ab col dd k0 k1 k2 k3 k5 newId)
  sa : PySem.W.findIn K (.ref C) "__setattr__" = some (some (.builtin "object.__setattr__"))
  ga : PySem.W.findIn K (.ref C) "__getattribute__" = some (some (.builtin "BaseException.__getattribute__"))
  gg : PySem.W.findIn K (.ref C) "__getattr__" = some none
  st : PySem.W.findIn K (.ref C) "__str__" = some (some (.builtin "BaseException.__str__"))
  ca : PySem.W.findIn K (.ref C) "__class__" = some (some (.builtin "object.__class__"))
  ex : PySem.W.subIn K (.ref C) (.type "BaseException") = some true
  kC : PySem.W.keepIn K (.ref C) = true
  hd : PySem.W.hasDictIn K C = true
  mo : PySem.W.mroIn K C (.type "object") = some true
theorem refs_contains (X : String) (tail : List Value) : ∀ cs : List Addr, (cs.map Value.ref ++ tail).contains (.type X) = tail.contains (.type X)
  | [] => rfl
  | c :: cs => by
    show (Value.ref c :: (cs.map Value.ref ++ tail)).contains (.type X) = _
    rw [List.contains_cons, refs_contains X tail cs]; rfl
theorem refs_pass (self : Value) {tail : List Value} (hp : refuseLoop self "__setattr__" tail = pure ()) : ∀ cs : List Addr, refuseLoop self "__setattr__" (cs.map Value.ref ++ tail) = pure ()
  | [] => hp
  | c :: cs => by
    show refuseLoop self "__setattr__" (Value.ref c :: (cs.map Value.ref ++ tail)) = _
    rw [refuseLoop_ref]; exact refs_pass self hp cs

section
variable {X : Cx} {pins : List (Addr × Obj)} {σ : L2.St} {H : Hp} {a C t0 t1 p : Addr} {d0 d1 : Option Addr} {op : HO} {hp h' : Heap} {g : Array GenState} {d : Drawn} {t t' : Nat} {os : OsState}
/-- a new object at p, the exception at a changed -/
theorem inv_two (I : Inv X pins σ H ⟨hp, g, d, t, os⟩) (e : H a = some (exq a C t0 d0)) (k : ∀ b o, b ≠ a → hp.get? b = some o → h'.get? b = some o) (dn : hp.objs.size ≤ p)
    (hx : h'.get? a = some ({ cls := .ref C, dict := d1, data := .fields #[.ref t1, .none, .none, .none, .bool false, .none] } : Obj)) (new : ∀ H', ObjOk X.prog X.w H' h' p op) :
    Inv X pins σ (upd (upd H p op) a (exq a C t1 d1)) ⟨h', g, d, t', os⟩ := by
  have hnd : H p = none := I.hok.fresh dn
  have nd : ∀ {b : Addr} {o : Obj}, hp.get? b = some o → b ≠ p := fun {b o} q => Nat.ne_of_lt (Nat.lt_of_lt_of_le (Heap.lt_size q) dn)
  have na : ∀ {b : Addr}, H b = none → b ≠ a := fun {b} n z => by rw [z, e] at n; cases n
  have Un1 : Un X.fs [] H (upd (upd H p op) a (exq a C t1 d1)) hp h' := {
    keep := fun b o q n _ _ => k b o (na n) q
    slot := fun b o q n _ _ => ⟨o.slots, k b o (na n) q⟩
    free := fun b o q n _ => by rw [upd_ne (na n), upd_ne (nd q)]; exact n
    there := fun b o q _ => by
      by_cases hb : b = a
      · exact ⟨_, by rw [hb]; exact hx⟩
      · exact ⟨o, k b o hb q⟩
    tups := fun b xs q => by rw [upd_ne (at_ne e q exq_tup), upd_ne (ne_of_none q hnd)]; exact q
    frzs := fun b o v q => by rw [upd_ne (at_ne e q exq_frz), upd_ne (ne_of_none q hnd)]; exact q
    tbls := fun b ps q => ⟨#[], by rw [upd_ne (at_ne e q exq_tbl), upd_ne (ne_of_none q hnd), q]; simp⟩ }
  refine I.un (t' := t') Un1 fun b o q => ?_
  by_cases hb : b = a
  · subst hb
    rw [upd_same] at q
    cases q
    exact exq_ok hx
  · rw [upd_ne hb] at q
    by_cases hd : b = p
    · subst hd
      rw [upd_same] at q
      cases q
      exact new _
    · rw [upd_ne hd] at q
      exact (I.hok b o q).stay (fun c v hc z => k c v (by
          rcases hc with hc | hc
          · rw [hc]; exact hb
          · exact at_ne e hc exq_own) z)
        (fun c hc => by rw [upd_ne (at_ne e hc exq_own), upd_ne (ne_of_none hc hnd)]; exact hc) (fun c xs hc => by rw [upd_ne (at_ne e hc exq_tup), upd_ne (ne_of_none hc hnd)]; exact hc)
end
section
variable {X : Cx} {pins : List (Addr × Obj)} {σ : L2.St} {H : Hp} {s : Shared} {a C t dx : Addr} {f : Str} {y : V} {u : Value} {id : String} {A : Around} {E : Value → Shared → Prop}
/-- Base.__init__(self, ..): the args are a new tuple -/
theorem xinit_ok {us : List Value} {ws : List V} {Q : Value → Shared → Prop} (T : XCls X.K C id) (I : Inv X pins σ H s) (e : H a = some (exq a C t none)) (r : Vals ws us) (hl : ws.length ≤ sizeLine)
    (h : ∀ p s', H p = none → Inv X pins σ (upd (upd H p (.tup ws)) a (exq a C p none)) s' → Q .none s') :
    wpAny (model X.prog X.w) A (call (.builtin id) (.ref a :: us)) Q E s := by
  obtain ⟨B, newId, tail, nm, q, N, bs, cs, sn, sub, ab, col, dd, k0, k1, k2, k3, k5, hB, hC⟩ := T.cls
  have ho := exq_at I.hok e
  obtain ⟨hp, g, d, t', os⟩ := s
  refine wpAny_call (init_tup hB.F (fun Y => refs_contains Y tail cs) (I.kIn _ _ hC) ho (by rw [← Paired.length r]; exact hl) fun h' k hx ht => ?_)
  have dn : hp.objs.size ≤ hp.objs.size := Nat.le_refl _
  exact h _ _ (I.hok.fresh dn) (inv_two I e k dn hx (op := .tup ws) fun H' => ⟨hl, us, r, ⟨_, ht, rfl, _, rfl⟩⟩)
/-- self.f = y on an exception without a dict -/
theorem xst_ok {Q : Unit → Shared → Prop} (T : XCls X.K C id) (I : Inv X pins σ H s) (e : H a = some (exq a C t none)) (hno : PySem.W.findIn X.K (.ref C) f = some none) (ry : RelV y u)
    (h : ∀ dx s', H dx = none → Inv X pins σ (upd (upd H dx (exd dx [(f, y)])) a (exq a C t (some dx))) s' → Q () s') : wpAny (model X.prog X.w) A (setAttr (.ref a) f u) Q E s := by
  obtain ⟨B, newId, tail, nm, q, N, bs, cs, sn, sub, ab, col, dd, k0, k1, k2, k3, k5, hB, hC⟩ := T.cls
  have hcl : PySem.W.clsIn X.K C = some { name := nm, bases := bs, mro := .ref C :: (cs.map Value.ref ++ tail), ns := N, qualname := q, hasDict := true, slotNames := sn, subclasses := sub, abstract := ab, collection := col, hasDel := false } := by unfold PySem.W.clsIn; rw [hC] <;> rfl
  have ho := exq_at I.hok e
  obtain ⟨hp, g, d, t', os⟩ := s
  refine PySem.W.set_plain I.kIn (ox := { cls := .ref C, dict := none, data := .fields #[.ref t, .none, .none, .none, .bool false, .none] }) (od := none) ⟨ho, rfl, rfl, trivial⟩ T.sa ?_
  refine exc_osaT I.kIn ho hcl (refs_pass (.ref a) (hB.pass _) (C :: cs)) rfl ?_ rfl hno (fun h' tk' dx k dn dne hx hn => ?_)
  · exact (refs_contains "object" tail (C :: cs)).trans hB.ob
  · exact h dx _ (I.hok.fresh dn) (inv_two I e k dn hx (op := exd dx [(f, y)]) fun H' => exd_ok hn (relO_put (fs := []) ry fun g => True.intro))
end

/-! ### readings and rules -/
/-- Base.__init__(self, ..) -/
def tXinit (K : PySem.W.Frag) (id : String) (ta : TA) : TE := fun σ H Q => ta σ H fun vs H1 => ∃ (a C t : Addr) (ws : List V), vs = .ref a :: ws ∧ ws.length ≤ 1000 ∧ XCls K C id ∧ H1 a = some (exq a C t none) ∧
  ∀ p, H1 p = none → Q .non (upd (upd H1 p (.tup ws)) a (exq a C p none))
/-- self.f = e -/
def tXst (K : PySem.W.Frag) (id : String) (f : Str) (to te : TE) : TS := fun D σ H => te σ H fun y H1 => to σ H1 fun x H2 => ∃ a C t : Addr, x = .ref a ∧ XCls K C id ∧ PySem.W.findIn K (.ref C) f = some none ∧ H2 a = some (exq a C t none) ∧
  ∀ dx, H2 dx = none → D.nx σ (upd (upd H2 dx (exd dx [(f, y)])) a (exq a C t (some dx)))
section
variable {X : Cx} {o e : Expr} {es : List Expr} {to te : TE} {ta : TA} {f cn : Str} {p p' p1 p2 pos : Pos} {id T : String} {S : Addr}
theorem xinit_args {pins : List (Addr × Obj)} {σ : L2.St} {H : Hp} {s : Shared} {Q : VK} (I : Inv X pins σ H s) (h : tXinit X.K id ta σ H Q) (ha : PA X (e :: es) ta)
    (he : starEach (e :: es) X.env = (false, eval e X.env) :: starEach es X.env) (hpl : (backTo pos (starEach es X.env)).any (·.1) = false) :
    wpAny (model X.prog X.w) X.A (callWith pos (Value.builtin id) [] (backTo pos (starEach (e :: es) X.env)) []) (EP X pins σ Q) X.xe s := by
  refine PyProof.Rows.callWith_method1 (thn (ha.run pos pins _ σ H _ I h) fun us s1 ⟨vs, H1, I1, r1, a, C, t, ws, ev, hl, T, ea, q⟩ => ?_) he hpl
  subst ev
  cases r1 with
  | @cons _ u0 _ ur ra rw' =>
    obtain rfl : u0 = Value.ref a := ra
    exact xinit_ok T I1 ea rw' (by rw [sizeLine_eq]; omega) fun p s' n J => ⟨.non, _, J, rfl, q p n⟩
/-- S.__init__(self, ..), S an own class that has its built-in base's __init__ -/
theorem pe_xinitS {pl : Sem Bool} {mc : Value} (hg : Gl X cn) (hm : X.mg cn = some (.ref S)) (hga : PySem.W.specialIn X.K (.ref S) "__getattribute__" = some (some (.builtin "type.__getattribute__"))) (hrd : PySem.W.readsIn X.K S mc = true)
    (hf : PySem.W.findCls X.K (.ref S) mc "__init__" = some (.val (.builtin id))) (hh : PySem.W.handedIn (.builtin id) = true) (ha : PA X (e :: es) ta) (hdb : (cn == ("__debug__" : Str)) = false := by decide)
    (hc : eval (.Call (.Attribute (.Name cn p1) "__init__" p2) (e :: es) [] pos) X.env = (do
      let ov ← eval (.Name cn p1) X.env
      standAt p2.atName
      let (f, first) ← holding [ov] (getMethod ov "__init__" pl)
      callWith pos f first (backTo pos (starEach (e :: es) X.env)) (backToKw pos (keywordEach [] X.env))) := by rfl)
    (he : starEach (e :: es) X.env = (false, eval e X.env) :: starEach es X.env := by rfl) (hpl : (backTo pos (starEach es X.env)).any (·.1) = false := by rfl) :
    PE X (.Call (.Attribute (.Name cn p1) "__init__" p2) (e :: es) [] pos) (tXinit X.K id ta) := by
  refine ⟨fun pins s σ H Q I h => ?_⟩
  refine PySem.W.methodCall_KW (ld_glob I hg hm ?_ hdb) hc
  refine PySem.W.method_cls I.kIn hga (PySem.W.cls_value I.kIn hrd hf hh ?_)
  exact xinit_args (I.tok _) h ha he hpl
/-- T.__init__(self, ..), T a built-in exception class -/
theorem pe_xinitT {pl : Sem Bool} (hg : Gl X cn) (hm : X.mg cn = none) (hv : bootBuiltins cn = some (.type T)) (hty : typeOf (.type T) = pure (.type "type")) (hs : Manifest.isStub T = false)
    (hf : PySem.W.findCls X.K (.type T) (.type "type") "__init__" = some (.val (.builtin id))) (hh : PySem.W.handedIn (.builtin id) = true) (ha : PA X (e :: es) ta) (hn : cn ≠ "__name__" := by decide) (hdb : (cn == ("__debug__" : Str)) = false := by decide)
    (hc : eval (.Call (.Attribute (.Name cn p1) "__init__" p2) (e :: es) [] pos) X.env = (do
      let ov ← eval (.Name cn p1) X.env
      standAt p2.atName
      let (f, first) ← holding [ov] (getMethod ov "__init__" pl)
      callWith pos f first (backTo pos (starEach (e :: es) X.env)) (backToKw pos (keywordEach [] X.env))) := by rfl)
    (he : starEach (e :: es) X.env = (false, eval e X.env) :: starEach es X.env := by rfl) (hpl : (backTo pos (starEach es X.env)).any (·.1) = false := by rfl) :
    PE X (.Call (.Attribute (.Name cn p1) "__init__" p2) (e :: es) [] pos) (tXinit X.K id ta) := by
  refine ⟨fun pins s σ H Q I h => ?_⟩
  refine PySem.W.methodCall_KW (ld_blt I hg hm hv ?_ hn hdb) hc
  obtain ⟨m, fr⟩ := I.fr
  refine PySem.W.method_type fr I.ok.mod.kin hty hs hf hh ?_
  exact xinit_args (I.tok _) h ha he hpl
theorem ps_xst (ho : PE X o to) (he : PE X e te) (hs : swapsWith e (some (.Attribute o f p')) pos.line X.env = pure false := by rfl) : PS X (.Assign [.Attribute o f p'] e pos) (tXst X.K id f to te) := by
  refine ⟨fun pins s σ H D I h => ?_⟩
  refine plainObj_wpAny_Assign_Attribute (thn (he.run pins s σ H _ I h) fun v s1 ⟨y, H1, I1, r1, q1⟩ => thn (ho.run pins s1 σ H1 _ I1 q1) fun u s2 ⟨x, H2, I2, r2, a, C, t, ex, T, hno, ea, q⟩ => ?_) hs
  subst ex
  obtain rfl : u = Value.ref a := r2
  exact xst_ok T I2 ea hno r1 fun dx s' n J => ⟨σ, _, J, q dx n⟩
end

/-! ### made by a call -/
/-- at a: an exception of the class at C, its one arg the text m, its one field f holding v -/
def XAt (H : Hp) (a C : Addr) (m f : Str) (v : V) : Prop := ∃ t dx, H a = some (exq a C t (some dx)) ∧ H t = some (.tup [.str m]) ∧ H dx = some (exd dx [(f, v)])
theorem XAt.same {H H' : Hp} {a C : Addr} {m f : Str} {v : V} (x : XAt H a C m f v) (s : ∀ b o, H b = some o → H' b = some o) : XAt H' a C m f v :=
  let ⟨t, dx, h1, h2, h3⟩ := x
  ⟨t, dx, s _ _ h1, s _ _ h2, s _ _ h3⟩
/-- the promise of such an __init__ -/
def spXI (C : Addr) (m f : Str) : Sp := fun vs H Q _ => ∃ (a t : Addr) (v : V), vs = [.ref a, v] ∧ H a = some (exq a C t none) ∧ ∀ H', XAt H' a C m f v → (∀ b o, b ≠ a → H b = some o → H' b = some o) → Q .non H'
/-- how its calls bind -/
structure XMk (K : PySem.W.Frag) (C fI : Addr) (fd : FuncData) (f : Str) : Prop where
  init : PySem.W.findIn K (.ref C) "__init__" = some (some (.ref fI))
  tI : PySem.W.typeIn K (.ref fI) = some (.type "function")
  pos : ∀ (s : Shared) (u v : Value), K.In s.heap → BindsTo s fd ⟨[u, v], []⟩ [("self", u), (f, v)]
  kw : ∀ (s : Shared) (u v : Value), K.In s.heap → BindsTo s fd ⟨[u], [(f, v)]⟩ [("self", u), (f, v)]
/-- C(e), C(f = e), C(): what the call gives -/
def qX (C : Addr) (m f : Str) (v : V) (H1 : Hp) (Q : VK) : Prop := ∀ a H', H1 a = none → XAt H' a C m f v → (∀ b o, H1 b = some o → H' b = some o) → Q (.ref a) H'
section
variable {X : Cx} {CX : CXT} {k : Nat} {C fI : Addr} {fd : FuncData} {id : String} {m f x : Str} {E : XK} {p pos kpos : Pos} {e : Expr} {te : TE}
theorem run_X {pins : List (Addr × Obj)} {σ : L2.St} {H : Hp} {s : Shared} {Q : VK} {us : List Value} {kw : List (Str × Value)} {v : V} {u : Value} (T : XCls X.K C id) (hi : PySem.W.findIn X.K (.ref C) "__init__" = some (some (.ref fI))) (ti : PySem.W.typeIn X.K (.ref fI) = some (.type "function"))
    (F : FnOk X.prog X.w X.K X.mg X.base CX k fI fd ["self", f] (spXI C m f)) (hr : Room (k + 1) X.A) (hx : Passes CX X E)
    (hb : ∀ (s : Shared) (self : Value), X.K.In s.heap → BindsTo s fd ⟨self :: us, kw⟩ [("self", self), (f, u)]) (hus : us.length ≤ sizeLine) (I : Inv X pins σ H s) (r : RelV v u) (h : qX C m f v H Q) :
    wpAny (model X.prog X.w) X.A (call (.ref C) us kw) (EP X pins σ Q) X.xe s := by
  obtain ⟨B, newId, tail, nm, q, N, bs, cs, sn, sub, ab, col, dd, k0, k1, k2, k3, k5, hB, hC⟩ := T.cls
  obtain ⟨hp, g, dr, tk, os⟩ := s
  have hsz : hp.objs.size ≤ hp.objs.size + 1 := Nat.le_succ _
  have hn : H (hp.objs.size + 1) = none := I.hok.fresh hsz
  have kk : ∀ b o, hp.get? b = some o → ((hp.push (PySem.W.kdv_tup us)).push (PySem.HandSPX.excO C hp.objs.size)).get? b = some o := fun b o e => Heap.get?_push_of_some _ (Heap.get?_push_of_some _ e)
  have hget : ((hp.push (PySem.W.kdv_tup us)).push (PySem.HandSPX.excO C hp.objs.size)).get? (hp.objs.size + 1) = some (PySem.HandSPX.excO C hp.objs.size) := by heap_get
  have I2 : Inv X pins σ (upd H (hp.objs.size + 1) (exq (hp.objs.size + 1) C hp.objs.size none)) ⟨(hp.push (PySem.W.kdv_tup us)).push (PySem.HandSPX.excO C hp.objs.size), g, dr, tk, os⟩ :=
    I.laid (t' := tk) (a := hp.objs.size + 1) (o := exq (hp.objs.size + 1) C hp.objs.size none) (h' := (hp.push (PySem.W.kdv_tup us)).push (PySem.HandSPX.excO C hp.objs.size)) kk hsz (exq_ok hget)
  have r2 : Vals [V.ref (hp.objs.size + 1), v] [Value.ref (hp.objs.size + 1), u] := .cons rfl (.cons r .nil)
  refine wpAny_call (call_kw hB.F (fun Y => refs_contains Y tail cs) (I.kIn _ _ hC) (PySem.W.looks_findIn I.kIn hi) (fun self => PySem.W.bind_fn I.kIn self ti) hus
    (codeAny_mono (F.run _ X.stack _ _ ⟨Value.ref (hp.objs.size + 1) :: us, kw⟩ [Value.ref (hp.objs.size + 1), u] _ (fun v' H' => v' = .non ∧ Q (.ref (hp.objs.size + 1)) H') E (hr.make C us kw) (I2.env0.make C us kw) (hb _ _ I2.kIn) r2
      ⟨hp.objs.size + 1, hp.objs.size, v, rfl, upd_same, fun H' hx k' => ⟨rfl, h _ _ hn hx fun b o q => k' b o (fun z => by rw [z, hn] at q; cases q) (by rw [upd_ne (fun z => by rw [z, hn] at q; cases q)]; exact q)⟩⟩) fun r s' hq' => ?_))
  cases r with
  | error e => exact hx pins σ _ _ e s' I2 hq'
  | ok fl =>
    cases fl with
    | ret u =>
      obtain ⟨v', H', I3, rv, ev, q3⟩ := I2.after hq'
      subst ev
      refine ⟨rv, ⟨V.ref (hp.objs.size + 1), H', ?_, rfl, q3⟩⟩
      exact I3
    | next => exact False.elim hq'
    | brk => exact False.elim hq'
    | cont => exact False.elim hq'
def tX1 (C : Addr) (m f : Str) (te : TE) : TE := fun σ H Q => te σ H fun v H1 => qX C m f v H1 Q
def tX0 (C : Addr) (m f : Str) : TE := fun σ H Q => qX C m f .non H Q
/-- C(e) -/
theorem pe_x1 (T : XCls X.K C id) (M : XMk X.K C fI fd f) (F : FnOk X.prog X.w X.K X.mg X.base CX k fI fd ["self", f] (spXI C m f)) (hr : Room (k + 1) X.A) (hg : Gl X x) (hm : X.mg x = some (.ref C)) (hx : Passes CX X E) (he : PE X e te)
    (hdb : (x == ("__debug__" : Str)) = false := by decide) (hs : starEach [e] X.env = (false, eval e X.env) :: starEach [] X.env := by rfl) : PE X (.Call (.Name x p) [e] [] pos) (tX1 C m f te) := by
  refine ⟨fun pins s σ H Q I h => ?_⟩
  refine wpAny_Call_Name_kw (ld_glob I hg hm ?_ hdb)
  refine PySem.W.callWith_K (h₀ := X.base) I.ok.mod.kin T.kC ?_ hs (by rfl)
  rw [hs]
  show wpAny _ _ (spliced ((false, eval e X.env) :: backTo pos (starEach [] X.env))) _ _ s
  refine Calls.spliced_cons (thn (he.run pins s σ H _ I h) fun u s1 ⟨v, H1, I1, r1, q1⟩ => ?_)
  refine Calls.spliced_nil ⟨I1.kIn, ?_⟩
  show wpAny _ _ (call (.ref C) [u]) _ _ _
  exact run_X T M.init M.tI F hr hx (fun s self k => M.pos s self u k) (by show 1 ≤ sizeLine; rw [sizeLine_eq]; omega) I1 r1 q1
/-- C(f = e) -/
theorem pe_xk (T : XCls X.K C id) (M : XMk X.K C fI fd f) (F : FnOk X.prog X.w X.K X.mg X.base CX k fI fd ["self", f] (spXI C m f)) (hr : Room (k + 1) X.A) (hg : Gl X x) (hm : X.mg x = some (.ref C)) (hx : Passes CX X E) (he : PE X e te)
    (hdb : (x == ("__debug__" : Str)) = false := by decide) : PE X (.Call (.Name x p) [] [⟨some f, e, kpos⟩] pos) (tX1 C m f te) := by
  refine ⟨fun pins s σ H Q I h => ?_⟩
  refine wpAny_Call_Name_kw (ld_glob I hg hm ?_ hdb)
  refine PySem.W.callWith_KW0 (h₀ := X.base) I.ok.mod.kin T.kC (by rfl) ?_ (by rfl)
  refine thn ((pk_cons (nm := some f) (kpos := kpos) he pk_nil).run pos pins s σ H (fun zs H1 => match zs with | [v] => qX C m f v H1 Q | _ => False) I h) fun ws s2 ⟨zs, H2, I2, rz, q2⟩ => ⟨I2.kIn, ?_⟩
  match zs, q2, rz with
  | [v], q2, .cons (b := u) rv .nil =>
    show wpAny _ _ (call (.ref C) [] [(f, u)]) _ _ _
    exact run_X (us := []) T M.init M.tI F hr hx (fun s self k => M.kw s self u k) (Nat.zero_le _) I2 rv q2
/-- C() -/
theorem pe_x0 (T : XCls X.K C id) (M : XMk X.K C fI fd f) (h0 : ∀ (s : Shared) (u : Value), X.K.In s.heap → BindsTo s fd ⟨[u], []⟩ [("self", u), (f, .none)]) (F : FnOk X.prog X.w X.K X.mg X.base CX k fI fd ["self", f] (spXI C m f)) (hr : Room (k + 1) X.A) (hg : Gl X x) (hm : X.mg x = some (.ref C)) (hx : Passes CX X E)
    (hdb : (x == ("__debug__" : Str)) = false := by decide) : PE X (.Call (.Name x p) [] [] pos) (tX0 C m f) := by
  refine ⟨fun pins s σ H Q I h => ?_⟩
  refine wpAny_Call_Name_kw (ld_glob I hg hm ?_ hdb)
  refine PySem.W.callWith_K0 I.kIn T.kC ?_
  exact run_X (us := []) T M.init M.tI F hr hx (fun s self k => h0 s self k) (Nat.zero_le _) I (v := .non) (u := .none) rfl h
end

/-! ### their fields, isinstance, str -/
def tXfld (K : PySem.W.Frag) (f : Str) (te : TE) : TE := fun σ H Q => te σ H fun x H1 => ∃ (a C : Addr) (m : Str) (v : V) (id : String), x = .ref a ∧ XCls K C id ∧ PySem.W.findIn K (.ref C) f = some none ∧ XAt H1 a C m f v ∧ Q v H1
/-- isinstance(e, c) -/
def rXisi (K : PySem.W.Frag) : List V → Hp → VK → Prop := fun xs H Q => ∃ (a C : Addr) (m f : Str) (v c : V) (cv : Value) (b : Bool) (id : String), xs = [.ref a, c] ∧ XCls K C id ∧ XAt H a C m f v ∧ (∀ u, RelV c u → u = cv) ∧ PySem.W.kitOne K (.ref C) cv = some b ∧ Q (.bl b) H
/-- str(e) -/
def rXstr (K : PySem.W.Frag) : List V → Hp → VK → Prop := fun xs H Q => ∃ (a C : Addr) (m f : Str) (v : V) (id : String), xs = [.ref a] ∧ XCls K C id ∧ XAt H a C m f v ∧ Q (.str m) H
section
variable {X : Cx} {e : Expr} {te : TE} {f : Str} {id : String} {pos : Pos}
theorem inst_x {pins : List (Addr × Obj)} {σ : L2.St} {H : Hp} {s : Shared} {a C : Addr} {m f : Str} {v : V} (I : Inv X pins σ H s) (x : XAt H a C m f v) :
    ∃ (ox od : Obj) (t : Addr) (tk : Tok) (u : Value), PySem.W.InstAt s.heap a ox C (some od) ∧ ox.data = .fields #[.ref t, .none, .none, .none, .bool false, .none] ∧ PySem.W.lookIn f od = some (some u) ∧ RelV v u ∧ s.heap.TupAt t [.str m tk] := by
  obtain ⟨t, dx, h1, h2, h3⟩ := x
  have ho := exq_at I.hok h1
  obtain ⟨mA, hns, hr⟩ := exd_at I.hok h3
  obtain ⟨od, hod, hl⟩ := lookIn_ns hns
  have l : List.lookup f [(f, v)] = some v := by simp [List.lookup]
  obtain ⟨u, hu, ru⟩ := RelO.some_of (v := v) (o := mA f) (by rw [← l]; exact hr f)
  obtain ⟨_, its, rv, o, ht, hc, n, hd⟩ := (show ObjOk X.prog X.w H s.heap t (.tup [.str m]) from I.hok t _ h2)
  match its, rv with
  | [u1], .cons r1 .nil =>
    obtain ⟨tk, rfl⟩ := r1
    exact ⟨_, od, t, tk, u, ⟨ho, rfl, rfl, hod⟩, rfl, by rw [hl, hu], ru, o, n, ht, hc, hd⟩
theorem pe_xfld (he : PE X e te) (hb : attributeBase e f X.env (eval e X.env) = eval e X.env := by rfl) : PE X (.Attribute e f pos) (tXfld X.K f te) := by
  refine ⟨fun pins s σ H Q I h => ?_⟩
  refine attr_of hb (thn (he.run pins s σ H _ I h) fun u s1 hh => ?_)
  obtain ⟨x, H1, I1, rx, a, C, m, v, id, ex, T, hno, xa, q⟩ := hh
  subst ex
  obtain rfl : u = Value.ref a := rx
  obtain ⟨ox, od, t, tk, u, J, hd, hl, ru, _⟩ := inst_x I1 xa
  exact HandSPX.exc_get I1.kIn J T.ga T.gg T.ex (PySem.W.findObj_own T.hd hno rfl hl) (handed_of ru) ⟨v, H1, I1.tok _, ru, q⟩
theorem sp_class {K : PySem.W.Frag} : PySem.W.specialIn K (.builtin "object.__class__") "__get__" = some (some (.builtin "getset_descriptor.__get__")) := by kernel_rfl
theorem tk_class {K : PySem.W.Frag} : PySem.W.takesIn K (.builtin "object.__class__") = some true := by kernel_rfl
theorem call_xisi : CallR X (.builtin "isinstance") (rXisi X.K) := by
  intro pins s σ H xs us Q I r h
  obtain ⟨a, C, m, f, v, c, cv, b, id, rfl, T, xa, hcv, e, q⟩ := h
  match us, r with
  | [u1, u2], .cons r1 (.cons r2 .nil) =>
    obtain rfl : u1 = Value.ref a := r1
    obtain rfl := hcv _ r2
    obtain ⟨ox, od, t, tk, u, J, _⟩ := inst_x I xa
    have hcl : (PySem.W.clsIn X.K C).isSome = true := by
      obtain ⟨cd, hc, _⟩ := PySem.W.any_some T.hd
      rw [hc]; rfl
    exact PySem.W.kia_one (PySem.W.kitx_exc hcl T.ga T.gg T.ex T.ca sp_class tk_class T.mo) I.kIn J e (fun z => nomatch z) fun tk => ⟨.bl b, H, I.tok tk, rfl, q⟩
theorem call_xstr (hu : X.A.units + 2 < cLine) : CallR X (.type "str") (rXstr X.K) := by
  intro pins s σ H xs us Q I r h
  obtain ⟨a, C, m, f, v, id, rfl, T, xa, q⟩ := h
  match us, r with
  | [u1], .cons r1 .nil =>
    obtain rfl : u1 = Value.ref a := r1
    obtain ⟨ox, od, t, tk, u, J, hd, _, _, ht⟩ := inst_x I xa
    exact PySem.P.str_of_C_one hu ⟨I.kIn, ox, _, J.at_, J.cls, hd, rfl⟩ ht T.st T.ex ⟨.str m, H, I, ⟨tk, rfl⟩, q⟩
end
end XV

-- XV3
set_option autoImplicit true
namespace XV
open PySem PySem.Spec PyProof.Rows L2
section
variable {P : Program} {w : World} {K : PySem.W.Frag} {mg : Str → Option Value} {base : Heap}
theorem xi_read {id : String} {f m : Str} {C a t : Addr} {v : V} {H : Hp} {Q : VK} (T : XCls K C id) (hno : PySem.W.findIn K (.ref C) f = some none) (ha : H a = some (exq a C t none))
    (q : ∀ H', XAt H' a C m f v → (∀ b o, b ≠ a → H b = some o → H' b = some o) → Q .non H') :
    tSeq (tDrop (tXinit K id (tCons (tVar 0) (tCons (tC (.str m)) tNil)))) (tXst K id f (tVar 0) (tVar 1)) { nx := fun _ H' => Q .non H', rt := Q } [some (.ref a), some v] H := by
  refine ⟨_, rfl, a, C, t, [.str m], rfl, (by show 1 ≤ 1000; decide), T, ha, fun p hp => ?_⟩
  refine ⟨_, rfl, _, rfl, a, C, p, rfl, T, hno, upd_same, fun dx hd => ?_⟩
  have npa : a ≠ p := ne_of_none ha hp
  have nda : a ≠ dx := ne_of_none upd_same hd
  have ndp : p ≠ dx := ne_of_none (by rw [upd_ne npa.symm]; exact upd_same) hd
  refine q _ ⟨p, dx, upd_same, ?_, ?_⟩ fun b o hb e => ?_
  · rw [upd_ne npa.symm, upd_ne ndp, upd_ne npa.symm]; exact upd_same
  · rw [upd_ne nda.symm]; exact upd_same
  · have nbp : b ≠ p := ne_of_none e hp
    have nbd : b ≠ dx := ne_of_none (by rw [upd_ne hb, upd_ne nbp]; exact e) hd
    rw [upd_ne hb, upd_ne nbd, upd_ne hb, upd_ne nbp]; exact e
end
end XV

-- XV5
set_option autoImplicit true
namespace XV
open PySem PySem.Spec PyProof.Rows L2
/-! ### raise C(e), C an own exception class whose __init__ calls its base's and stores one field -/
/-- the promise of such an __init__, its dict new -/
def spXJ (C : Addr) (m f : Str) : Sp := fun vs H Q _ => ∃ (a t : Addr) (v : V), vs = [.ref a, v] ∧ H a = some (exq a C t none) ∧
  ∀ H' t1 dx, H' a = some (exq a C t1 (some dx)) → H' dx = some (exd dx [(f, v)]) → H dx = none → (∀ b o, b ≠ a → H b = some o → H' b = some o) → Q .non H'
theorem xj_read {K : PySem.W.Frag} {id : String} {f m : Str} {C a t : Addr} {v : V} {H : Hp} {Q : VK} (T : XCls K C id) (hno : PySem.W.findIn K (.ref C) f = some none) (ha : H a = some (exq a C t none))
    (q : ∀ H' t1 dx, H' a = some (exq a C t1 (some dx)) → H' dx = some (exd dx [(f, v)]) → H dx = none → (∀ b o, b ≠ a → H b = some o → H' b = some o) → Q .non H') :
    tSeq (tDrop (tXinit K id (tCons (tVar 0) (tCons (tC (.str m)) tNil)))) (tXst K id f (tVar 0) (tVar 1)) { nx := fun _ H' => Q .non H', rt := Q } [some (.ref a), some v] H := by
  refine ⟨_, rfl, a, C, t, [.str m], rfl, (by show 1 ≤ 1000; decide), T, ha, fun p hp => ?_⟩
  refine ⟨_, rfl, _, rfl, a, C, p, rfl, T, hno, upd_same, fun dx hd => ?_⟩
  have npa : a ≠ p := ne_of_none ha hp
  have nda : a ≠ dx := ne_of_none upd_same hd
  have ndp : p ≠ dx := ne_of_none (by rw [upd_ne npa.symm]; exact upd_same) hd
  refine q _ p dx upd_same ?_ ?_ fun b o hb e => ?_
  · rw [upd_ne nda.symm]; exact upd_same
  · rw [upd_ne nda.symm, upd_ne ndp.symm] at hd; exact hd
  · have nbp : b ≠ p := ne_of_none e hp
    have nbd : b ≠ dx := ne_of_none (by rw [upd_ne hb, upd_ne nbp]; exact e) hd
    rw [upd_ne hb, upd_ne nbd, upd_ne hb, upd_ne nbp]; exact e
theorem inv_call' {X : Cx} {pins : List (Addr × Obj)} {σ : L2.St} {H H' : Hp} {s s' : Shared} (I : Inv X pins σ H s) (u : Un (frs X.stack) [] H H' s.heap s'.heap) (hok : HOk X.prog X.w H' s'.heap) (ho : s'.os = s.os) (hb : AllBare s'.gens) : Inv X pins σ H' s' := by
  obtain ⟨hp, g, d, t, os⟩ := s
  obtain ⟨hp2, g2, d2, t2, os2⟩ := s'
  obtain rfl : os2 = os := ho
  exact I.call (h' := hp2) (g' := g2) (d' := d2) (t' := t2) (ch := []) u hok hb (fun b z => absurd z (by simp))
section
variable {X : Cx}
/-- the exception leaves what is tracked -/
theorem xmk_end {pins : List (Addr × Obj)} {σ : L2.St} {H1 H2 : Hp} {Q : XK} {s1 s2 : Shared} {hp2 : Heap} {a C t0 t1 d : Addr} {fs : List (Str × V)} (T : Raises X (.ref C)) (I1 : Inv X pins σ H1 s1) (ha : s1.heap.objs.size ≤ a)
    (k : ∀ b o, s1.heap.get? b = some o → hp2.get? b = some o) (un : Un (frs X.stack) [] (upd H1 a (exq a C t0 none)) H2 hp2 s2.heap) (hok : HOk X.prog X.w H2 s2.heap) (ho : s2.os = s1.os) (hb : AllBare s2.gens)
    (ea : H2 a = some (exq a C t1 (some d))) (ed : H2 d = some (exd d fs)) (hd1 : H1 d = none) (q : Q (.ref C) (some d) (upd (del H2 a) d (.xd fs))) : MkP X pins σ Q (.ref a) s2 := by
  have hoe := exq_at hok ea
  obtain ⟨mA, hns, rel⟩ := exd_at hok ed
  have hn : H1 a = none := I1.hok.fresh ha
  have hda : d ≠ a := fun z => by
    obtain ⟨o, es, ep, e1, e2, _⟩ := hns
    rw [z, hoe] at e1
    have z2 := Option.some.inj e1
    subst z2
    cases e2
  obtain ⟨G, g1, g2⟩ := restrict s2.heap fun b => decide (b ≠ a)
  have gk : ∀ b, b ≠ a → G.get? b = s2.heap.get? b := fun b hb => g1 b (decide_eq_true hb)
  have ge : G.get? a = none := g2 a (by simp)
  have ne : ∀ {b : Addr} {o : Obj}, s1.heap.get? b = some o → b ≠ a := fun {b o} z => Nat.ne_of_lt (Nat.lt_of_lt_of_le (Heap.lt_size z) ha)
  have up : ∀ {b : Addr}, b ≠ a → H1 b = none → upd H1 a (exq a C t0 none) b = none := fun {b} hb n => by rw [upd_ne hb]; exact n
  have nd : ∀ {b : Addr} {o : Obj}, s1.heap.get? b = some o → H1 b = none → b ≠ d := fun {b o} z n e => by
    have y := un.free b o (k b o z) (up (ne z) n) (by simp)
    rw [e, ed] at y
    cases y
  have U : Un (frs X.stack) [] H1 (upd (del H2 a) d (.xd fs)) s1.heap G :=
    ⟨fun b o z n hf hx => by rw [gk b (ne z)]; exact un.keep b o (k b o z) (up (ne z) n) hf hx, fun b o z n hf hx => by rw [gk b (ne z)]; exact un.slot b o (k b o z) (up (ne z) n) hf hx,
     fun b o z n hx => by rw [upd_ne (nd z n), del_ne (ne z)]; exact un.free b o (k b o z) (up (ne z) n) hx, fun b o z hx => by rw [gk b (ne z)]; exact un.there b o (k b o z) hx,
     fun b xs z => by rw [upd_ne (ne_of_none z hd1), del_ne (ne_of_none z hn)]; exact un.tups b xs (by rw [upd_ne (ne_of_none z hn)]; exact z),
     fun b o v z => by rw [upd_ne (ne_of_none z hd1), del_ne (ne_of_none z hn)]; exact un.frzs b o v (by rw [upd_ne (ne_of_none z hn)]; exact z),
     fun b ps z => by rw [upd_ne (ne_of_none z hd1), del_ne (ne_of_none z hn)]; exact un.tbls b ps (by rw [upd_ne (ne_of_none z hn)]; exact z)⟩
  have hok3 : HOk X.prog X.w (upd (del H2 a) d (.xd fs)) G := fun b o z => by
    by_cases hbd : b = d
    · subst hbd
      rw [upd_same] at z
      cases z
      exact ⟨mA, hns.at fun o y => (gk b hda).trans y, rel⟩
    · rw [upd_ne hbd] at z
      have hba : b ≠ a := fun e => by rw [e, del_same] at z; cases z
      rw [del_ne hba] at z
      have noa : ∀ {c : Addr}, H2 c = some (.own b) → c ≠ a := fun {c} hc => at_ne ea hc exq_own
      exact (hok b o z).stay (fun c v hc y => by
          have hca : c ≠ a := hc.elim (fun hc => by rw [hc]; exact hba) noa
          rw [gk c hca]; exact y)
        (fun c hc => by rw [upd_ne (at_ne ed hc exd_own), del_ne (noa hc)]; exact hc) (fun c xs hc => by rw [upd_ne (at_ne ed hc exd_tup), del_ne (at_ne ea hc exq_tup)]; exact hc)
  have J : Inv X pins σ (upd (del H2 a) d (.xd fs)) { s2 with heap := G } := inv_call' I1 U hok3 ho hb
  refine ⟨a, _, _, { s2 with heap := G }, _, .ref C, some d, rfl, J, fun b o z => ?_, ge, hoe, ⟨rfl, rfl⟩, rfl, rfl, ?_, rfl, hb, T, q⟩
  · by_cases hba : b = a
    · rw [hba, show ({ s2 with heap := G } : Shared).heap.get? a = none from ge] at z; cases z
    · exact (gk b hba).symm.trans z
  · rw [upd_ne (Ne.symm hda), del_same]
variable {CX : CXT} {k : Nat} {C fI : Addr} {fd : FuncData} {id : String} {m f x : Str} {E : XK} {p pos : Pos} {e : Expr} {te : TE}
/-- C(e), to be raised -/
theorem pmk_x (T : XCls X.K C id) (tyC : PySem.W.typeIn X.K (.ref C) = some (.type "type")) (M : XMk X.K C fI fd f) (F : FnOk X.prog X.w X.K X.mg X.base CX k fI fd ["self", f] (spXJ C m f)) (hr : Room (k + 1) X.A) (hg : Gl X x) (hm : X.mg x = some (.ref C)) (hx : Passes CX X (fun _ _ _ => False)) (he : PE X e te)
    (hdb : (x == ("__debug__" : Str)) = false := by decide) (hs : starEach [e] X.env = (false, eval e X.env) :: starEach [] X.env := by rfl) :
    PMk X (.Call (.Name x p) [e] [] pos) (fun σ H Q => te σ H fun v H1 => ∀ d H2, H1 d = none → (∀ b o, H1 b = some o → H2 b = some o) → H2 d = some (.xd [(f, v)]) → Q (.ref C) (some d) H2) := by
  intro pins s σ H Q I h
  refine wpAny_Call_Name_kw (ld_glob I hg hm ?_ hdb)
  refine PySem.W.callWith_K (h₀ := X.base) I.ok.mod.kin T.kC ?_ hs (by rfl)
  rw [hs]
  show wpAny _ _ (spliced ((false, eval e X.env) :: backTo pos (starEach [] X.env))) _ _ s
  refine Calls.spliced_cons (thn (he.run pins s σ H _ I h) fun u s1 ⟨v, H1, I1, r, q1⟩ => ?_)
  refine Calls.spliced_nil ⟨I1.kIn, ?_⟩
  show wpAny _ _ (call (.ref C) [u]) _ _ _
  obtain ⟨B, newId, tail, nm, q, N, bs, cs, sn, sub, ab, col, dd, k0, k1, k2, k3, k5, hB, hC⟩ := T.cls
  obtain ⟨hp, g, dr, tk, os⟩ := s1
  have hsz : hp.objs.size ≤ hp.objs.size + 1 := Nat.le_succ _
  have hn : H1 (hp.objs.size + 1) = none := I1.hok.fresh hsz
  have kk : ∀ b o, hp.get? b = some o → ((hp.push (PySem.W.kdv_tup [u])).push (PySem.HandSPX.excO C hp.objs.size)).get? b = some o := fun b o e => Heap.get?_push_of_some _ (Heap.get?_push_of_some _ e)
  have hget : ((hp.push (PySem.W.kdv_tup [u])).push (PySem.HandSPX.excO C hp.objs.size)).get? (hp.objs.size + 1) = some (PySem.HandSPX.excO C hp.objs.size) := by heap_get
  have I2 : Inv X pins σ (upd H1 (hp.objs.size + 1) (exq (hp.objs.size + 1) C hp.objs.size none)) ⟨(hp.push (PySem.W.kdv_tup [u])).push (PySem.HandSPX.excO C hp.objs.size), g, dr, tk, os⟩ :=
    I1.laid (t' := tk) (a := hp.objs.size + 1) (o := exq (hp.objs.size + 1) C hp.objs.size none) (h' := (hp.push (PySem.W.kdv_tup [u])).push (PySem.HandSPX.excO C hp.objs.size)) kk hsz (exq_ok hget)
  have r2 : Vals [V.ref (hp.objs.size + 1), v] [Value.ref (hp.objs.size + 1), u] := .cons rfl (.cons r .nil)
  refine wpAny_call (call_kw hB.F (fun Y => refs_contains Y tail cs) (I1.kIn _ _ hC) (PySem.W.looks_findIn I1.kIn M.init) (fun self => PySem.W.bind_fn I1.kIn self M.tI) (by show 1 ≤ sizeLine; rw [sizeLine_eq]; omega)
    (codeAny_mono (F.run _ X.stack _ _ ⟨[Value.ref (hp.objs.size + 1), u], []⟩ [Value.ref (hp.objs.size + 1), u] _ (fun v' H2 => v' = .non ∧ ∃ t1 dx, H2 (hp.objs.size + 1) = some (exq (hp.objs.size + 1) C t1 (some dx)) ∧ H2 dx = some (exd dx [(f, v)]) ∧ H1 dx = none ∧ ∀ b o, H1 b = some o → H2 b = some o) (fun _ _ _ => False) (hr.make C [u] []) (I2.env0.make C [u] []) (M.pos _ _ _ I2.kIn) r2
      ⟨hp.objs.size + 1, hp.objs.size, v, rfl, upd_same, fun H' t1 dx h1 h2 h3 k' => ⟨rfl, t1, dx, h1, h2, ?_, fun b o q => k' b o (fun z => by rw [z, hn] at q; cases q) (by rw [upd_ne (fun z => by rw [z, hn] at q; cases q)]; exact q)⟩⟩) fun r s' hq' => ?_))
  · have nd : dx ≠ hp.objs.size + 1 := fun z => by rw [z, upd_same] at h3; cases h3
    rw [upd_ne nd] at h3; exact h3
  cases r with
  | error e => exact hx pins σ _ _ e s' I2 hq'
  | ok fl =>
    cases fl with
    | ret u =>
      obtain ⟨v', H2, os2, bare2, un2, hok2, rv, ev, t1, dx, h1, h2, h3, h4⟩ := hq'
      subst ev
      refine ⟨rv, xmk_end (raises_own T.ex tyC) I1 hsz kk un2 hok2 os2 bare2 h1 h2 h3 (q1 dx _ h3 (fun b o z => ?_) upd_same)⟩
      rw [upd_ne (ne_of_none z h3), del_ne (ne_of_none z hn)]
      exact h4 b o z
    | next => exact False.elim hq'
    | brk => exact False.elim hq'
    | cont => exact False.elim hq'
end
end XV

-- DL9
set_option autoImplicit true
namespace DL
open PySem PySem.Spec PyProof.Rows L2
/-! ### owned slots read and changed -/
def Sl.own? : Sl → Option Ow
  | .ow o => some o
  | .bo o => some o
  | _ => none
def Sl.with (s : Sl) (o : Ow) : Sl := match s with
  | .ow _ => .ow o
  | .bo _ => .bo o
  | s => s
section
variable {C : DC} {Hd H H' : Hp} {σ : L2.St} {ρ : Rho} {vs ws : List V} {ss rs : List Sl} {v : V} {s : Sl}
theorem En.atO {i : Nat} {o : Ow} (E : En C Hd H σ ρ vs ss) (hi : ρ[i]? = some s) (ho : s.own? = some o) : ∃ v fp, σ[i]? = some (some v) ∧ Own C.K Hd H v o fp ∧
    ∀ {H' : Hp} {o' : Ow}, (∀ a, a ∉ fp → H' a = H a) → Own C.K Hd H' v o' fp → En C Hd H' σ (ρ.set i (s.with o')) vs ss := by
  obtain ⟨f, g, h2, h3, h4, h5⟩ := E.sep
  obtain ⟨x, f1, g1, g2, rfl, q1, q2, q3⟩ := h3.at hi
  have go : ∀ {v : V}, x = some v → Own C.K Hd H v o f1 → (∀ a ∈ f1, NN C.F a ∨ a ∈ C.B) → (∀ {H' : Hp} {o' : Ow}, Own C.K Hd H' v o' f1 → SlR C Hd H' (some v) (s.with o') f1) → ∃ v fp, σ[i]? = some (some v) ∧ Own C.K Hd H v o fp ∧
      ∀ {H' : Hp} {o' : Ow}, (∀ a, a ∉ fp → H' a = H a) → Own C.K Hd H' v o' fp → En C Hd H' σ (ρ.set i (s.with o')) vs ss := by
    intro v ex ow hb mk
    subst ex
    refine ⟨v, f1, q1, ow, fun {H' o'} k ow' => ?_⟩
    have out : ∀ a ∈ f ++ (g1 ++ g2), a ∉ f1 := fun a ha hb => by
      have q := h4 a
      have q1 := cnt_mem hb
      have q2 := cnt_mem ha
      simp only [List.count_append] at q q2
      omega
    have nHd : ∀ a ∈ f1, NN Hd a := fun a ha => h5 a (by simp [ha])
    have e1 : σ.set i (some v) = σ := by
      apply List.ext_getElem?
      intro j
      by_cases hj : i = j
      · subst hj
        obtain ⟨hl, _⟩ := List.getElem?_eq_some_iff.mp q1
        rw [List.getElem?_set_self hl, q1]
      · rw [List.getElem?_set_ne hj]
    have q4 := q3 (Hd' := Hd) (H' := H') (some v) (s.with o') f1 (Sub.refl _) (fun a ha => k a (out a (List.mem_append_right _ ha))) (mk ow')
    rw [e1] at q4
    have tb : LamX.Tabs C.T H' := tabs_upd E.tabs fun a => by
      by_cases z : a ∈ f1
      · obtain ⟨o, t, e⟩ := ow.has a z
        exact .inr fun o' e' => by rw [e] at e'; cases e'; exact t
      · exact .inl (k a z)
    refine ⟨fun a u t hB e => ?_, fun a u t e => ?_, E.ext, E.new, fun a u t e => ?_, tb, f, _, h2.mono (Sub.refl _) fun a ha => k a (out a (List.mem_append_left _ ha)), q4, h4, h5⟩
    · rw [k a fun z => (hb a z).elim (fun n => n u t e) hB]; exact E.keep a u t hB e
    · by_cases z : a ∈ f1
      · obtain ⟨o, t, e⟩ := ow'.has a z
        exact ⟨o, nT_pl t, e⟩
      · rw [k a z]; exact E.there a u t e
    · rw [k a fun z => nHd a z u t e]; exact E.sub a u t e
  cases s with
  | ow o1 => cases ho; obtain ⟨⟨v, ex, ow⟩, hF⟩ := q2; exact go ex ow (fun a ha => .inl (hF a ha)) fun ow' => ⟨⟨v, rfl, ow'⟩, hF⟩
  | bo o1 => cases ho; obtain ⟨⟨v, ex, ow⟩, hB⟩ := q2; exact go ex ow (fun a ha => .inr (hB a ha)) fun ow' => ⟨⟨v, rfl, ow'⟩, hB⟩
  | _ => cases ho
/-- the list of the i-th slot, read only -/
def listAt (ρ : Rho) (i : Nat) : Option (List D) := match ρ[i]? with
  | some (.da (.list ds)) => some ds
  | some (.ow (.l ds)) => some ds
  | some (.bo (.l ds)) => some ds
  | _ => none
theorem En.listAt {i : Nat} {ds : List D} (E : En C Hd H σ ρ vs ss) (h : DL.listAt ρ i = some ds) : ∃ a xs, σ[i]? = some (some (.ref a)) ∧ Rd H a (.lst xs) ∧ DqAll C.K Hd xs ds := by
  unfold DL.listAt at h
  cases hi : ρ[i]? with
  | none => rw [hi] at h; cases h
  | some s =>
    rw [hi] at h
    have own : s.own? = some (.l ds) → ∃ a xs, σ[i]? = some (some (.ref a)) ∧ Rd H a (.lst xs) ∧ DqAll C.K Hd xs ds := fun ho => by
      obtain ⟨v, fp, hv, ⟨a, xs, rfl, _, h1, h2⟩, _⟩ := E.atO hi ho
      exact ⟨a, xs, hv, .inl h1, h2⟩
    cases s with
    | da d =>
      cases d with
      | list ds' =>
        cases h
        obtain ⟨f, g, h2, h3, h4, h5⟩ := E.sep
        obtain ⟨x, f1, g1, g2, rfl, q1, ⟨_, v', rfl, q2⟩, q3⟩ := h3.at hi
        obtain ⟨a, xs, rfl, hx, ax⟩ := dp_lst q2
        exact ⟨a, xs, q1, E.sub.rd hx, ax⟩
      | _ => cases h
    | ow o => cases o with
      | l ds' => cases h; exact own rfl
      | _ => cases h
    | bo o => cases o with
      | l ds' => cases h; exact own rfl
      | _ => cases h
    | _ => cases h
/-- a slot that is assigned -/
def isSet (ρ : Rho) (i : Nat) : Bool := match ρ[i]? with
  | some .un => false
  | some _ => true
  | none => false
theorem En.isSet {i : Nat} (E : En C Hd H σ ρ vs ss) (h : DL.isSet ρ i = true) : ∃ v, σ[i]? = some (some v) := by
  unfold DL.isSet at h
  cases hi : ρ[i]? with
  | none => rw [hi] at h; cases h
  | some s =>
    rw [hi] at h
    obtain ⟨f, g, h2, h3, h4, h5⟩ := E.sep
    obtain ⟨x, f1, g1, g2, rfl, q1, q2, q3⟩ := h3.at hi
    cases s with
    | un => cases h
    | da d => obtain ⟨_, v, rfl, _⟩ := q2; exact ⟨v, q1⟩
    | va v => obtain ⟨_, rfl⟩ := q2; exact ⟨v, q1⟩
    | vs xs => obtain ⟨_, a, rfl, _⟩ := q2; exact ⟨_, q1⟩
    | ow o => obtain ⟨⟨v, rfl, _⟩, _⟩ := q2; exact ⟨v, q1⟩
    | bo o => obtain ⟨⟨v, rfl, _⟩, _⟩ := q2; exact ⟨v, q1⟩
theorem En.atD {i : Nat} {d : D} (E : En C Hd H σ ρ vs ss) (hi : ρ[i]? = some (.da d)) : ∃ v, σ[i]? = some (some v) ∧ Dq C.K Hd v d := by
  obtain ⟨f, g, h2, h3, h4, h5⟩ := E.sep
  obtain ⟨x, f1, g1, g2, rfl, q1, ⟨_, v, rfl, q⟩, q3⟩ := h3.at hi
  exact ⟨v, q1, q⟩
end
section
variable {X : Cx} {C : DC} {e : Expr} {st : Stmt} {te ti tv : TD} {ta : TDA}
/-- len(x), x a slot's -/
def dLenV (i : Nat) : TD := fun ρ Q => match listAt ρ i with
  | some ds => Q (.da (.int ds.length)) ρ
  | none => match ρ[i]? with
    | some (.da (.tuple ds)) => Q (.da (.int ds.length)) ρ
    | some (.da (.str z)) => z.length ≤ sizeLine ∧ Q (.da (.int z.length)) ρ
    | _ => False
theorem q_lenV {i : Nat} (hK : C.K = X.K) (h : PE X e (tCB (fun xs H Q => ∃ x n, xs = [x] ∧ LenV X.K x H n ∧ Q (.int n) H) (tCons (tVar i) tNil))) : PE X e (LE C (dLenV i)) := imp_e h fun σ H Q ⟨Hd, ρ, vs, ss, Qd, E, k, q⟩ => by
  unfold dLenV at q
  cases hl : listAt ρ i with
  | some ds =>
    rw [hl] at q
    obtain ⟨a, xs, hv, hx, ax⟩ := E.listAt hl
    exact ⟨_, hv, _, _, rfl, .inl ⟨xs, .inl hx, rfl⟩, k _ _ _ Hd H q (by rw [ax.length]; exact E.push (.int _))⟩
  | none =>
    rw [hl] at q
    simp only at q
    split at q
    · rename_i ds hi
      obtain ⟨v, hv, hd⟩ := E.atD hi
      obtain ⟨a, xs, rfl, hx, ax⟩ := dp_tup hd
      exact ⟨_, hv, _, _, rfl, .inr ⟨xs, hK ▸ E.sub.seqT hx, rfl⟩, k _ _ _ Hd H q (by rw [ax.length]; exact E.push (.int _))⟩
    · rename_i z hi
      obtain ⟨v, hv, hd⟩ := E.atD hi
      cases dp_str hd
      exact ⟨_, hv, _, _, rfl, ⟨q.1, rfl⟩, k _ _ _ Hd H q.2 (E.push (.int _))⟩
    · exact q.elim
/-- x[e], x a slot's -/
def ixVS (ρ : Rho) (i : Nat) (s : Sl) (Q : D → Prop) : Prop := match s with
  | .da (.int j) => match listAt ρ i with
    | some ds => someQ (atD ds j) Q
    | none => match ρ[i]? with
      | some (.da d) => ixB d (.int j) Q
      | _ => False
  | _ => False
def dIxV (i : Nat) (ti : TD) : TD := fun ρ Q => cnd (isSet ρ i) (ti ρ fun s ρ1 => ixVS ρ1 i s fun d => Q (.da d) ρ1) False
theorem ixV_le {i : Nat} (hK : C.K = X.K) {σ : L2.St} {H : Hp} {Q : VK} (h : LE C (dIxV i ti) σ H Q) : tOp (rIx X.K) (tVar i) (LE C ti) σ H Q := by
  obtain ⟨Hd, ρ, vs, ss, Qd, E, k, q⟩ := h
  obtain ⟨hs, q⟩ := cnd_inv q
  obtain ⟨x, hx⟩ := E.isSet hs
  refine ⟨x, hx, Hd, ρ, vs, ss, _, E, fun s ρ1 v Hd1 H1 q1 E1 => ?_, q⟩
  unfold ixVS at q1
  split at q1
  · rename_i j
    cases dp_int E1.top
    cases hl : listAt ρ1 i with
    | some ds =>
      rw [hl] at q1
      obtain ⟨d, hd, q1⟩ := someQ_inv q1
      rw [atD_eq] at hd
      obtain ⟨a, xs, hv, hx', ax⟩ := E1.listAt hl
      rw [hx] at hv
      cases hv
      obtain ⟨z, hz, dz⟩ := ax.atI hd
      exact .inl ⟨a, xs, j, z, rfl, rfl, .inl hx', hz, k _ _ _ Hd1 H1 q1 (E1.drop.push dz)⟩
    | none =>
      rw [hl] at q1
      simp only at q1
      split at q1
      · rename_i d hi
        obtain ⟨v, hv, hd⟩ := E1.atD hi
        rw [hx] at hv
        cases hv
        refine (o_ix hK) Hd1 H1 σ ρ1 vs ss _ (.int j) (.da d) (.da (.int j)) Q (fun s => Qd s ρ1) ?_ (fun s v Hd' H' qs E' => k s ρ1 v Hd' H' qs E') q1
        exact En.over (ws := [.int j]) (rs := [.da (.int j)]) (E1.push hd) rfl
      · exact q1.elim
  · exact q1.elim
theorem q_ixV {i : Nat} (hK : C.K = X.K) (h : PE X e (tOp (rIx X.K) (tVar i) (LE C ti))) : PE X e (LE C (dIxV i ti)) := imp_e h fun σ H Q q => ixV_le hK q
/-- x.append(e) -/
def dApp (i : Nat) (ta : TDA) : TD := fun ρ Q => match listAt ρ i with
  | some _ => ta ρ fun rs ρ1 => match rs with
    | [s] => match s.toD with
      | some d => match ρ1[i]? with
        | some (.ow (.l ds)) => ds.length < sizeLine ∧ Q (.da .none) (ρ1.set i (.ow (.l (ds ++ [d]))))
        | some (.bo (.l ds)) => ds.length < sizeLine ∧ Q (.da .none) (ρ1.set i (.bo (.l (ds ++ [d]))))
        | _ => False
      | none => False
    | _ => False
  | none => False
theorem q_app {i : Nat} (h : PE X e (tBM X.K "list" rAppend (tVar i) (LA C ta))) : PE X e (LE C (dApp i ta)) := imp_e h fun σ H Q ⟨Hd, ρ, vs, ss, Qd, E, k, q⟩ => by
  unfold dApp at q
  cases hl : listAt ρ i with
  | none => rw [hl] at q; exact q.elim
  | some ds0 =>
    rw [hl] at q
    obtain ⟨a, xs0, hv, hx, _⟩ := E.listAt hl
    refine ⟨_, hv, .inl ⟨rfl, xs0, .inl hx⟩, Hd, ρ, vs, ss, _, E, fun rs ρ1 ws Hd1 H1 q1 l E1 => ?_, q⟩
    split at q1
    · rename_i s
      match ws, l with
      | [w], _ =>
        cases es : s.toD with
        | none => rw [es] at q1; exact q1.elim
        | some d =>
          rw [es] at q1
          simp only at q1
          obtain ⟨Hd2, _, E2⟩ := En.fz (v := w) (vs := vs) (ss := ss) E1 es
          have go : ∀ {s' : Sl} {ds : List D}, ρ1[i]? = some s' → s'.own? = some (.l ds) → ds.length < sizeLine → Qd (.da .none) (ρ1.set i (s'.with (.l (ds ++ [d])))) → rAppend (.ref a) [w] H1 Q := by
            intro s' ds hi ho hz qd
            obtain ⟨v, fp, hv', ⟨a', xs, rfl, rfl, h1, h2⟩, up⟩ := E2.drop.atO hi ho
            rw [hv] at hv'
            cases hv'
            refine ⟨a, xs, w, rfl, rfl, h1, by rw [h2.length]; exact hz, k _ _ _ Hd2 _ qd (((up (o' := .l (ds ++ [d])) (H' := upd H1 a (.lst (xs ++ [w]))) (fun b hb => upd_ne (by simpa using hb)) ⟨a, _, rfl, rfl, upd_same, h2.append (.cons E2.top .nil)⟩)).push .non)⟩
          split at q1
          · rename_i ds hi
            exact go hi rfl q1.1 q1.2
          · rename_i ds hi
            exact go hi rfl q1.1 q1.2
          · exact q1.elim
    · exact q1.elim
/-- x[e] = v, x a slot's list -/
def sSetV (i : Nat) (ti tv : TD) : TDS := fun D ρ => tv ρ fun sv ρ1 => cnd (isSet ρ1 i) (ti ρ1 fun s ρ2 => match s, sv.toD, ρ2[i]? with
  | .da (.int j), some d, some (.ow (.l ds)) => someQ (ixN ds.length j) fun k => D.nx (ρ2.set i (.ow (.l (ds.set k d))))
  | _, _, _ => False) False
theorem s_setV {i : Nat} (h : PS X st (tAsg (LE C tv) (L2.gSub (tVar i) (LE C ti) rSetL))) : PS X st (LS C (sSetV i ti tv)) := imp_s h fun D σ H ⟨Hd, ρ, vs, ss, Dd, E, L, q⟩ => by
  refine ⟨Hd, ρ, vs, ss, _, E, fun sv ρ1 v Hd1 H1 q1 E1 => ?_, q⟩
  obtain ⟨hs, q1⟩ := cnd_inv q1
  obtain ⟨x, hx⟩ := E1.isSet hs
  refine ⟨x, hx, Hd1, ρ1, v :: vs, sv :: ss, _, E1, fun s ρ2 u Hd2 H2 q2 E2 => ?_, q1⟩
  split at q2
  · rename_i j d ds ed hi
    cases dp_int E2.top
    cases hk : ixN ds.length j with
    | none => rw [hk] at q2; exact q2.elim
    | some kk =>
      rw [hk] at q2
      obtain ⟨Hd3, _, E3⟩ := E2.drop.fz ed
      obtain ⟨v', fp, hv', ⟨a', xs, rfl, rfl, h1, h2⟩, up⟩ := E3.drop.atO hi rfl
      rw [hx] at hv'
      cases hv'
      refine ⟨a', xs, j, kk, rfl, rfl, h1, by rw [h2.length]; exact hk, L.nx _ _ Hd3 _ q2 (up (o' := .l (ds.set kk d)) (H' := upd H2 a' (.lst (xs.set kk v))) (fun b hb => upd_ne (by simpa using hb)) ⟨a', _, rfl, rfl, upd_same, h2.set E3.top kk⟩)⟩
  · exact q2.elim
/-- x op= e, ints -/
def sAugI (f : Int → Int → Int) (i : Nat) (te : TD) : TDS := fun D ρ => match ρ[i]? with
  | some (.da (.int a)) => te ρ fun s ρ1 => match s with
    | .da (.int b) => match ρ1[i]? with
      | some _ => D.nx (ρ1.set i (.da (.int (f a b))))
      | none => False
    | _ => False
  | _ => False
theorem s_augI {f : Int → Int → Int} {i : Nat} (h : PS X st (tAug i (LE C te) (ipI f))) : PS X st (LS C (sAugI f i te)) := imp_s h fun D σ H ⟨Hd, ρ, vs, ss, Dd, E, L, q⟩ => by
  unfold sAugI at q
  split at q
  · rename_i a hi
    obtain ⟨v, hv, hd⟩ := E.atD hi
    cases dp_int hd
    refine ⟨_, hv, Hd, ρ, vs, ss, _, E, fun s ρ1 u Hd1 H1 q1 E1 => ?_, q⟩
    split at q1
    · split at q1
      · rename_i s' hi1
        cases dp_int E1.top
        refine ⟨a, _, rfl, rfl, L.nx _ _ Hd1 H1 q1 ((E1.drop.push (.int _)).put (List.getElem?_eq_some_iff.mp hi1).1)⟩
      · exact q1.elim
    · exact q1.elim
  · exact q.elim
theorem own_head {K : PySem.W.Frag} {Hd H : Hp} {v : V} {o : Ow} {fp : List Addr} (h : Own K Hd H v o fp) (g : ∀ dss, o ≠ .ll dss) : ∃ a, v = .ref a ∧ fp = [a] := by
  cases o with
  | l ds => obtain ⟨b, vs, rfl, e, _⟩ := h; exact ⟨b, rfl, e⟩
  | ll dss => exact absurd rfl (g dss)
  | dk kvs => obtain ⟨b, kvv, rfl, e, _⟩ := h; exact ⟨b, rfl, e⟩
  | st n => obtain ⟨b, l, c', t, rfl, e, _⟩ := h; exact ⟨b, rfl, e⟩
/-- a call whose first argument, the i-th slot's, is lent -/
def oneO : Ow → Bool
  | .ll _ => false
  | _ => true
def dCallB (i : Nat) (P : PB) (ta : TDA) : TD := fun ρ Q => cnd (isSet ρ i) (ta ρ fun rs ρ1 => match argS rs, ρ1[i]? with
  | some rs', some (.ow o) => cnd (oneO o) (P o rs' (fun d o' => Q (.da d) (ρ1.set i (.ow o'))) fun _ _ => False) False
  | some rs', some (.bo o) => cnd (oneO o) (P o rs' (fun d o' => Q (.da d) (ρ1.set i (.bo o'))) fun _ _ => False) False
  | _, _ => False) False
theorem q_callB {i : Nat} {P : PB} {xf : XT} {E : XK} (hT : C.T = xf.T) (h : PE X e (tCall (spB C.K xf P) [] E (tCons (tVar i) (LA C ta)))) : PE X e (LE C (dCallB i P ta)) := imp_e h fun σ H Q ⟨Hd, ρ, vs, ss, Qd, E0, k, q⟩ => by
  obtain ⟨hs, q⟩ := cnd_inv q
  obtain ⟨x, hx⟩ := E0.isSet hs
  refine ⟨x, hx, Hd, ρ, vs, ss, _, E0, fun rs ρ1 ws Hd1 H1 q1 l E1 => ?_, q⟩
  show spB C.K xf P ((x :: ws) ++ []) H1 Q E
  rw [List.append_nil]
  have go : ∀ {s' : Sl} {o : Ow} {rs' : List Sl}, argS rs = some rs' → ρ1[i]? = some s' → s'.own? = some o → oneO o = true → P o rs' (fun d o' => Qd (.da d) (ρ1.set i (s'.with o'))) (fun _ _ => False) → spB C.K xf P (x :: ws) H1 Q E := by
    intro s' o rs' er hi ho h1 qp
    obtain ⟨Hd2, _, E2, a2⟩ := E1.args l er
    obtain ⟨v', fp, hv', ow, up⟩ := E2.atO hi ho
    obtain ⟨a, rfl, rfl⟩ := own_head ow (fun dss z => by rw [z] at h1; cases h1)
    rw [hx] at hv'
    cases hv'
    have nHd : NN Hd2 a := by
      obtain ⟨f, g, h2, h3, h4, h5⟩ := E2.sep
      obtain ⟨y, f1, g1, g2, rfl, q1, q2, q3⟩ := h3.at hi
      have : f1 = [a] := by
        cases s' with
        | ow o1 =>
          cases ho
          obtain ⟨⟨v2, e2, ow2⟩, _⟩ := q2
          subst e2
          rw [hx] at q1
          cases q1
          obtain ⟨a', e3, e4⟩ := own_head ow2 (fun dss z => by rw [z] at h1; cases h1)
          cases e3
          exact e4
        | bo o1 =>
          cases ho
          obtain ⟨⟨v2, e2, ow2⟩, _⟩ := q2
          subst e2
          rw [hx] at q1
          cases q1
          obtain ⟨a', e3, e4⟩ := own_head ow2 (fun dss z => by rw [z] at h1; cases h1)
          cases e3
          exact e4
        | _ => cases ho
      exact h5 a (by rw [this]; simp)
    refine ⟨Hd2, o, a, ws, rs', _, _, rfl, E2.sub, hT ▸ E2.tabs, ow, nHd, a2, fun d o' v Hd' H' qd g ow' dv => ?_, qp⟩
    have na : NN Hd' a := by
      obtain ⟨u, t, hu⟩ := ow.has a (by simp)
      intro u' t' e'
      rw [g.n a u (nT_pl t) hu] at e'
      exact nHd u' t' e'
    -- grown, but for a
    have g1 : Sub H1 (fun b => if b = a then H1 a else H' b) := fun b u t e => by
      by_cases hb : b = a
      · subst hb; simp only [if_true]; exact e
      · simp only [if_neg hb]; exact g.s3 b u t (by simpa using hb) e
    have g2 : Sub Hd' (fun b => if b = a then H1 a else H' b) := fun b u t e => by
      by_cases hb : b = a
      · subst hb; exact (na u t e).elim
      · simp only [if_neg hb]; exact g.s2 b u t e
    have tb : LamX.Tabs C.T (fun b => if b = a then H1 a else H' b) := tabs_upd (hT ▸ g.tb) fun b => by
      by_cases hb : b = a
      · subst hb
        obtain ⟨u, t, hu⟩ := ow'.has b (by simp)
        exact .inr fun o' e' => by rw [hu] at e'; cases e'; exact t
      · exact .inl (if_neg hb)
    have E3 := E2.grow g.s1 g1 g2 g.n tb
    obtain ⟨v3, fp3, hv3, ow3, up3⟩ := E3.atO hi ho
    obtain ⟨a3, rfl, rfl⟩ := own_head ow3 (fun dss z => by rw [z] at h1; cases h1)
    rw [hx] at hv3
    cases hv3
    exact k _ _ v Hd' H' qd ((up3 (H' := H') (fun b hb => by simp only [List.mem_singleton] at hb; simp only [if_neg hb]) ow').push dv)
  split at q1
  · rename_i er hi
    obtain ⟨h1, qp⟩ := cnd_inv q1
    exact go er hi rfl h1 qp
  · rename_i er hi
    obtain ⟨h1, qp⟩ := cnd_inv q1
    exact go er hi rfl h1 qp
  · exact q1.elim
/-! ### raise C(e) -/
def sRaise (c : Addr) (Ed : Addr → D → Prop) (te : TD) : TDS := fun _ ρ => te ρ fun s _ => match s.toD with
  | some d => Ed c d
  | none => False
theorem s_raise {f x : Str} {E : XK} {xf : XT} {Ed : Addr → D → Prop} {c : Addr} {p p2 pos : Pos} {a : Expr} (xw : XW C E xf Ed) (hf : xf.f c = f) (hc : X.calm = true) (tk : Takes X (fun cls d _ H => E cls d H))
    (h : PMk X (.Call (.Name x p) [a] [] p2) (fun σ H Q => LE C te σ H fun v H1 => ∀ d H2, H1 d = none → (∀ b o, H1 b = some o → H2 b = some o) → H2 d = some (.xd [(f, v)]) → Q (.ref c) (some d) H2)) : PS X (.Raise (some (.Call (.Name x p) [a] [] p2)) none pos) (LS C (sRaise c Ed te)) :=
  imp_s (ps_raise hc tk h) fun D σ H ⟨Hd, ρ, vs, ss, Dd, E0, L, q⟩ => by
    refine ⟨Hd, ρ, vs, ss, _, E0, fun s ρ1 v Hd1 H1 q1 E1 d H2 nd sb hd => ?_, q⟩
    cases es : s.toD with
    | none => rw [es] at q1; exact q1.elim
    | some dd =>
      rw [es] at q1
      obtain ⟨Hd2, _, E2⟩ := E1.fz es
      have sb' : Sub H1 H2 := fun b o _ e => sb b o e
      have E3 := E2.grow (Sub.refl _) sb' (E2.sub.trans sb') (fun _ _ _ _ => rfl) (E2.tabs.ext sb)
      refine xw.x Hd2 H2 σ ρ1 _ _ c dd v d q1 E3 E3.top (fun o t z => ?_) (by rw [hf]; exact hd)
      obtain ⟨o', _, z'⟩ := E2.there d o t z
      rw [nd] at z'
      cases z'
end
end DL

-- DL10
set_option autoImplicit true
namespace DL
open PySem PySem.Spec PyProof.Rows L2
/-! ### defs by name -/
/-- the text of a def as it stands behind the top -/
structure TxtF (K : PySem.W.Frag) (mg : Str → Option Value) (x : Str) (st : Stmt) (ps : List Str) : Prop where
  ex : ∃ f fd, Fun K x x st f fd ∧ Binds K fd ps [] ∧ mg x = some (.ref f)
/-- a def that keeps its promise -/
structure CalG (P : Program) (w : World) (K : PySem.W.Frag) (mg : Str → Option Value) (base : Heap) (g : Bool) (k : Nat) (x : Str) (ps : List Str) (sp : Sp) : Prop where
  ex : ∃ f fd st, FnG P w K mg base (L2.CX P w) g k f fd ps sp ∧ PySem.W.keepIn K (.ref f) = true ∧ Binds K fd ps [] ∧ mg x = some (.ref f) ∧ Fun K x x st f fd
section
variable {P : Program} {w : World} {K : PySem.W.Frag} {mg : Str → Option Value} {base : Heap} {g : Bool} {k : Nat} {x : Str} {ps N : List Str} {st : Stmt} {xf : XT}
theorem TxtF.okD {Pd : PD} (T : TxtF K mg x st ps) (S : FnScope N ps (defScope st)) (len : ∀ rs Qd Ed, Pd rs Qd Ed → rs.length = ps.length)
    (hbody : ∀ (f : Addr) (cdv : Value) (A : Around) (outer : List Env) (s : Shared) (H Hd : Hp) (E : XK) (rs : List Sl) (Qd : D → Prop) (Ed : Addr → D → Prop), Room k (A.deeper (envOfC x (defScope st) s.heap.objs.size f cdv)) → (g = true → A.guards = some []) → XW ⟨K, H, [], Hd, xf.T⟩ E xf Ed → Pd rs Qd Ed →
      ∃ t, PSs (cxOf (L2.CX P w) P w K mg base N x (defScope st) f cdv A outer s H E) (defBody st) (LS ⟨K, H, [], Hd, xf.T⟩ t) ∧
        t { nx := fun _ => Qd .none, rt := fun s _ => match s.toD with | some d => Qd d | none => False } (rs ++ List.replicate (N.length - rs.length) .un)) :
    CalG P w K mg base g (k + 1) x ps (spD K xf Pd) := by
  obtain ⟨f, fd, F, b, m⟩ := T.ex
  exact ⟨f, fd, st, F.okD S len fun cdv A outer s H Hd E rs Qd Ed _ => hbody f cdv A outer s H Hd E rs Qd Ed, F.kp, b, m, F⟩
theorem TxtF.okB {Pd : PB} (T : TxtF K mg x st ps) (S : FnScope N ps (defScope st)) (len : ∀ o rs Qd Ed, Pd o rs Qd Ed → rs.length + 1 = ps.length)
    (hbody : ∀ (f : Addr) (cdv : Value) (A : Around) (outer : List Env) (s : Shared) (H Hd : Hp) (E : XK) (B : List Addr) (o : Ow) (rs : List Sl) (Qd : D → Ow → Prop) (Ed : Addr → D → Prop), Room k (A.deeper (envOfC x (defScope st) s.heap.objs.size f cdv)) → (g = true → A.guards = some []) → Pd o rs Qd Ed →
      ∃ t, PSs (cxOf (L2.CX P w) P w K mg base N x (defScope st) f cdv A outer s H E) (defBody st) (LS ⟨K, H, B, Hd, xf.T⟩ t) ∧
        t { nx := fun (ρ : Rho) => match ρ[0]? with | some (Sl.bo o') => Qd .none o' | _ => False, rt := fun (s : Sl) (ρ : Rho) => match s.toD with | some d => (match ρ[0]? with | some (Sl.bo o') => Qd d o' | _ => False) | none => False } (.bo o :: (rs ++ List.replicate (N.length - (rs.length + 1)) .un))) :
    CalG P w K mg base g (k + 1) x ps (spB K xf Pd) := by
  obtain ⟨f, fd, F, b, m⟩ := T.ex
  exact ⟨f, fd, st, F.okB S len fun cdv A outer s H Hd E B o rs Qd Ed _ => hbody f cdv A outer s H Hd E B o rs Qd Ed, F.kp, b, m, F⟩
theorem CalG.imp {sp sp' : Sp} (c : CalG P w K mg base g k x ps sp) (h : ∀ vs H Q E, sp' vs H Q E → sp vs H Q E) : CalG P w K mg base g k x ps sp' := by
  obtain ⟨f, fd, st, F, r⟩ := c.ex
  exact ⟨f, fd, st, F.imp h, r⟩
end
section
variable {X : Cx} {C : DC} {e : Expr} {es : List Expr} {g : Bool} {k j : Nat} {x : Str} {ps : List Str} {sp : Sp} {E : XK} {t : TA} {p pos : Pos}
/-- f(e, ..) -/
theorem pe_gc (c : CalG X.prog X.w X.K X.mg X.base g k x ps sp) (hr : Room j X.A) (hk : k ≤ j) (hgd : g = true → X.A.guards = some []) (hg : Gl X x) (tk : Takes X (fun cls d _ H => E cls d H)) (ha : PA X (e :: es) t) (hdb : (x == ("__debug__" : Str)) = false := by decide)
    (he : starEach (e :: es) X.env = (false, eval e X.env) :: starEach es X.env := by rfl) (hpl : (backTo pos (starEach es X.env)).any (·.1) = false := by rfl) : PE X (.Call (.Name x p) (e :: es) [] pos) (tCall sp [] E t) := by
  obtain ⟨f, fd, _, F, kp, b, m, _⟩ := c.ex
  exact pe_g F (hr.mono hk) hgd hg m kp b .nil (passes_call tk fun _ _ _ _ h => h) ha hdb he hpl
/-- .. where nothing leaves -/
theorem pe_gc0 (c : CalG X.prog X.w X.K X.mg X.base g k x ps sp) (hr : Room j X.A) (hk : k ≤ j) (hgd : g = true → X.A.guards = some []) (hg : Gl X x) (ha : PA X (e :: es) t) (hdb : (x == ("__debug__" : Str)) = false := by decide)
    (he : starEach (e :: es) X.env = (false, eval e X.env) :: starEach es X.env := by rfl) (hpl : (backTo pos (starEach es X.env)).any (·.1) = false := by rfl) : PE X (.Call (.Name x p) (e :: es) [] pos) (tCall sp [] E0 t) := by
  obtain ⟨f, fd, _, F, kp, b, m, _⟩ := c.ex
  exact pe_g F (hr.mono hk) hgd hg m kp b .nil passL ha hdb he hpl
theorem xw0 {xf : XT} (hT : C.T = xf.T := by rfl) : XW C E0 xf (fun _ _ => False) := ⟨hT, fun _ _ _ _ _ _ _ _ _ _ h _ _ _ _ => h.elim⟩
/-- a constant of the module, data -/
theorem q_gdata {d : D} (hg : Gl X x) (h : ∃ v u, X.mg x = some u ∧ RelV v u ∧ ∀ H, Dq C.K H v d) (hdb : (x == ("__debug__" : Str)) = false := by decide) : PE X (.Name x pos) (LE C (dC d)) := by
  obtain ⟨v, u, m, r, hd⟩ := h
  exact q_con (pe_glob hg m r hdb) hd
end
/-! ### x[e] op= v, ints -/
section
variable {X : Cx} {C : DC} {e : Expr} {st : Stmt} {te ti tv : TD}
def pgL (K : PySem.W.Frag) : V → V → Hp → VK → Prop := fun o i H Q => ∃ p xs j v, o = .ref p ∧ i = .int j ∧ H p = some (.lst xs) ∧ atI xs j = some v ∧ Q v H
/-- found[e] += v -/
def sAugV (f : Int → Int → Int) (i : Nat) (ti tv : TD) : TDS := fun D ρ => cnd (isSet ρ i) (ti ρ fun s ρ1 => match s, ρ1[i]? with
  | .da (.int j), some (.ow (.l ds)) => someQ (ixN ds.length j) fun k => someQ ds[k]? fun z => match z with
      | .int a => tv ρ1 fun s' ρ2 => match s', ρ2[i]? with
        | .da (.int b), some (.ow (.l ds')) => cnd (Nat.beq ds'.length ds.length) (D.nx (ρ2.set i (.ow (.l (ds'.set k (.int (f a b))))))) False
        | _, _ => False
      | _ => False
  | _, _ => False) False
theorem get_list (hc : X.calm = true) : True := trivial
theorem s_augV {f : Int → Int → Int} {i : Nat} {tget : V → V → Hp → VK → Prop} (hget : ∀ (H : Hp) (Q : VK) (p : Addr) (xs : List V) (j : Int) (v : V), H p = some (.lst xs) → atI xs j = some v → Q v H → tget (.ref p) (.int j) H Q)
    (h : PS X st (tAugS (tVar i) (LE C ti) (LE C tv) tget (ipI f) rSetL)) : PS X st (LS C (sAugV f i ti tv)) := imp_s h fun D σ H ⟨Hd, ρ, vs, ss, Dd, E, L, q⟩ => by
  obtain ⟨hs, q⟩ := cnd_inv q
  obtain ⟨x, hx⟩ := E.isSet hs
  refine ⟨x, hx, Hd, ρ, vs, ss, _, E, fun s ρ1 v Hd1 H1 q1 E1 => ?_, q⟩
  split at q1
  · rename_i j ds hi
    cases dp_int E1.top
    cases hk : ixN ds.length j with
    | none => rw [hk] at q1; exact q1.elim
    | some kk =>
      rw [hk] at q1
      obtain ⟨zz, hd, q1⟩ := someQ_inv (Q := fun z => _) (show someQ ds[kk]? _ from q1)
      split at q1
      · rename_i a
        obtain ⟨v', fp, hv', ⟨p, xs, rfl, rfl, h1, h2⟩, _⟩ := E1.drop.atO hi rfl
        rw [hx] at hv'
        cases hv'
        have hat : L2.atI ds j = some (.int a) := by unfold L2.atI; rw [hk]; exact hd
        obtain ⟨z, hz, dz⟩ := h2.atI hat
        cases dp_int dz
        refine hget H1 _ p xs j _ h1 hz ⟨Hd1, ρ1, vs, ss, _, E1.drop, fun s' ρ2 u Hd2 H2 q2 E2 => ?_, q1⟩
        split at q2
        · rename_i b ds' hi2
          obtain ⟨hl, q2⟩ := cnd_inv q2
          have hl := Nat.eq_of_beq_eq_true hl
          cases dp_int E2.top
          obtain ⟨v2, fp2, hv2, ⟨p2, xs2, rfl, rfl, k1, k2⟩, up⟩ := E2.drop.atO hi2 rfl
          rw [hx] at hv2
          cases hv2
          exact ⟨a, b, rfl, rfl, p, xs2, j, kk, rfl, rfl, k1, by rw [k2.length, hl]; exact hk, L.nx _ _ Hd2 _ q2 (up (o' := .l (ds'.set kk (.int (f a b)))) (H' := upd H2 p (.lst (xs2.set kk (.int (f a b))))) (fun b hb => upd_ne (by simpa using hb)) ⟨p, _, rfl, rfl, upd_same, k2.set (.int _) kk⟩)⟩
        · exact q2.elim
      · exact q1.elim
  · exact q1.elim
/-! ### lists of lists -/
theorem someQ_some' {α : Type} {a : α} {Q : α → Prop} : someQ (some a) Q = Q a := rfl
/-- found[e][k] read, k written -/
def dIxVV (i : Nat) (ti : TD) (k : Int) : TD := fun ρ Q => cnd (isSet ρ i) (ti ρ fun s ρ1 => match s, ρ1[i]? with
  | .da (.int j), some (.ow (.ll dss)) => someQ (atD dss j) fun ds => someQ (atD ds k) fun d => Q (.da d) ρ1
  | _, _ => False) False
theorem OwnL.atI {K : PySem.W.Frag} {Hd H : Hp} {as : List Addr} {dss : List (List D)} {j : Int} {ds : List D} (h : OwnL K Hd H as dss) (e : L2.atI dss j = some ds) : ∃ n a vs, ixN as.length j = some n ∧ as[n]? = some a ∧ dss[n]? = some ds ∧ H a = some (.lst vs) ∧ DqAll K Hd vs ds := by
  unfold L2.atI at e
  rw [← h.length] at e
  cases q : ixN as.length j with
  | none => rw [q] at e; cases e
  | some n =>
    rw [q] at e
    have e : dss[n]? = some ds := e
    obtain ⟨a, vs, h1, h2, h3⟩ := h.get e
    exact ⟨n, a, vs, rfl, h1, e, h2, h3⟩
theorem q_ixVV {i : Nat} {k : Int} {tk : TE} (hk : ∀ σ H Q, Q (.int k) H → tk σ H Q) (h : PE X e (tOp (rIx X.K) (tOp (rIx X.K) (tVar i) (LE C ti)) tk)) : PE X e (LE C (dIxVV i ti k)) := imp_e h fun σ H Q ⟨Hd, ρ, vs, ss, Qd, E, kq, q⟩ => by
  obtain ⟨hs, q⟩ := cnd_inv q
  obtain ⟨x, hx⟩ := E.isSet hs
  refine ⟨x, hx, Hd, ρ, vs, ss, _, E, fun s ρ1 v Hd1 H1 q1 E1 => ?_, q⟩
  split at q1
  · rename_i j dss hi
    cases dp_int E1.top
    obtain ⟨ds, h1, q1⟩ := someQ_inv q1
    obtain ⟨d, h2, q1⟩ := someQ_inv q1
    rw [atD_eq] at h1 h2
    obtain ⟨v', fp, hv', ⟨p, as, rfl, rfl, k1, k2⟩, _⟩ := E1.drop.atO hi rfl
    rw [hx] at hv'
    cases hv'
    obtain ⟨n, a, ws, e1, e2, e3, e4, e5⟩ := k2.atI h1
    obtain ⟨z, hz, dz⟩ := e5.atI h2
    refine .inl ⟨p, as.map V.ref, j, .ref a, rfl, rfl, .inl (.inl k1), ?_, hk _ _ _ (.inl ⟨a, ws, k, z, rfl, rfl, .inl (.inl e4), hz, kq _ _ _ _ _ q1 (E1.drop.push dz)⟩)⟩
    unfold L2.atI
    rw [List.length_map, e1]
    show (as.map V.ref)[n]? = _
    rw [List.getElem?_map, e2]; rfl
  · exact q1.elim
/-- found[e][k] = v, k written -/
def sSetVV (i : Nat) (ti tv : TD) (k : Int) : TDS := fun D ρ => tv ρ fun sv ρ1 => cnd (isSet ρ1 i) (ti ρ1 fun s ρ2 => match s, sv.toD, ρ2[i]? with
  | .da (.int j), some d, some (.ow (.ll dss)) => someQ (ixN dss.length j) fun n => someQ dss[n]? fun ds => someQ (ixN ds.length k) fun m => D.nx (ρ2.set i (.ow (.ll (dss.set n (ds.set m d)))))
  | _, _, _ => False) False
theorem OwnL.set {K : PySem.W.Frag} {Hd H : Hp} {a : Addr} {vs : List V} {ds : List D} (hd : DqAll K Hd vs ds) : ∀ {as : List Addr} {dss : List (List D)} {n : Nat}, OwnL K Hd H as dss → as[n]? = some a → (as.count a ≤ 1) → OwnL K Hd (upd H a (.lst vs)) as (dss.set n ds)
  | [], [], _, _, e, _ => by simp at e
  | b :: as, d :: dss, 0, ⟨_, t⟩, e, c => by
    simp at e
    subst e
    refine ⟨⟨vs, upd_same, hd⟩, t.mono (Sub.refl _) fun x hx => upd_ne fun z => ?_⟩
    subst z
    have := cnt_mem hx
    simp only [List.count_cons_self] at c
    omega
  | b :: as, d :: dss, n + 1, ⟨⟨ws, h1, h2⟩, t⟩, e, c => by
    have ha : a ∈ as := List.mem_of_getElem? (by simpa using e)
    have hb : b ≠ a := fun z => by
      subst z
      have := cnt_mem ha
      simp only [List.count_cons_self] at c
      omega
    exact ⟨⟨ws, by rw [upd_ne hb]; exact h1, h2⟩, OwnL.set hd t (by simpa using e) (by rw [List.count_cons] at c; omega)⟩
  | [], _ :: _, _, h, _, _ => h.elim
  | _ :: _, [], _, h, _, _ => h.elim
theorem s_setVV {i : Nat} {k : Int} {tk : TE} (hk : ∀ σ H Q, Q (.int k) H → tk σ H Q) (h : PS X st (tAsg (LE C tv) (L2.gSub (tOp (rIx X.K) (tVar i) (LE C ti)) tk rSetL))) : PS X st (LS C (sSetVV i ti tv k)) := imp_s h fun D σ H ⟨Hd, ρ, vs, ss, Dd, E, L, q⟩ => by
  refine ⟨Hd, ρ, vs, ss, _, E, fun sv ρ1 v Hd1 H1 q1 E1 => ?_, q⟩
  obtain ⟨hs, q1⟩ := cnd_inv q1
  obtain ⟨x, hx⟩ := E1.isSet hs
  refine ⟨x, hx, Hd1, ρ1, v :: vs, sv :: ss, _, E1, fun s ρ2 u Hd2 H2 q2 E2 => ?_, q1⟩
  split at q2
  · rename_i j d dss ed hi
    cases dp_int E2.top
    cases hn : ixN dss.length j with
    | none => rw [hn] at q2; exact q2.elim
    | some n =>
      rw [hn] at q2
      rw [someQ_some'] at q2
      cases hds : dss[n]? with
      | none => rw [hds] at q2; exact q2.elim
      | some ds =>
        rw [hds] at q2
        rw [someQ_some'] at q2
        cases hm : ixN ds.length k with
        | none => rw [hm] at q2; exact q2.elim
        | some m =>
          rw [hm] at q2
          obtain ⟨Hd3, _, E3⟩ := E2.drop.fz ed
          obtain ⟨v', fp, hv', ⟨p, as, rfl, ef, k1, k2⟩, up⟩ := E3.drop.atO hi rfl
          rw [hx] at hv'
          cases hv'
          obtain ⟨a, ws, g1, g2, g3⟩ := k2.get hds
          have la : as.length = dss.length := k2.length
          -- the addresses are apart
          have cnt : ∀ b, (p :: as).count b ≤ 1 := fun b => by
            obtain ⟨f, g, h2, h3, h4, h5⟩ := E3.drop.sep
            obtain ⟨y, f1, w1, w2, rfl, q5, ⟨⟨v2, e2, ow2⟩, _⟩, _⟩ := h3.at hi
            subst e2
            rw [hx] at q5
            cases q5
            obtain ⟨p2, as2, e3, e4, k3, k4⟩ := ow2
            cases e3
            rw [k1] at k3
            have e5 := Option.some.inj k3
            injection e5 with e6
            have e7 : as = as2 := by
              have inj : ∀ (l1 l2 : List Addr), l1.map V.ref = l2.map V.ref → l1 = l2 := by
                intro l1
                induction l1 with
                | nil => intro l2 h; cases l2 with
                  | nil => rfl
                  | cons _ _ => simp at h
                | cons c l1 ih => intro l2 h; cases l2 with
                  | nil => simp at h
                  | cons c' l2 =>
                    rw [List.map_cons, List.map_cons] at h
                    injection h with h1 h2
                    injection h1 with h1
                    rw [h1, ih l2 h2]
              exact inj _ _ e6
            subst e7
            have z := h4 b
            rw [e4] at z
            simp only [List.count_append] at z
            omega
          have hap : p ≠ a := fun z => by
            have q1 := cnt p
            have q2 := cnt_mem (List.mem_of_getElem? g1)
            rw [← z] at q2
            simp only [List.count_cons_self] at q1
            omega
          refine .inl ⟨p, as.map V.ref, j, .ref a, rfl, rfl, .inl (.inl k1), ?_, hk _ _ _ ⟨a, ws, k, m, rfl, rfl, g2, by rw [g3.length]; exact hm, L.nx _ _ Hd3 _ q2 ?_⟩⟩
          · unfold L2.atI
            rw [List.length_map, la, hn]
            show (as.map V.ref)[n]? = _
            rw [List.getElem?_map, g1]; rfl
          · refine up (o' := .ll (dss.set n (ds.set m d))) (H' := upd H2 a (.lst (ws.set m v))) (fun b hb => upd_ne fun z => ?_) ⟨p, as, rfl, ef, by rw [upd_ne hap]; exact k1, OwnL.set (g3.set E3.top m) k2 g1 (by have := cnt a; rw [List.count_cons] at this; omega)⟩
            subst z
            exact hb (by rw [ef]; exact List.mem_cons_of_mem _ (List.mem_of_getElem? g1))
  · exact q2.elim
end
end DL

-- DL11
set_option autoImplicit true
namespace DL
open PySem PySem.Spec PyProof.Rows L2
/-! ### [[..] for ..]: lists that are changed later -/
section
variable {C : DC} {Hd Hd' H H' : Hp} {σ σ' : L2.St} {ρ : Rho} {vs ws : List V} {ss rs : List Sl} {v : V} {s : Sl}
theorem OwnL.snoc {K : PySem.W.Frag} {b : Addr} {ys : List V} {ds : List D} (hb : H b = some (.lst ys)) (hd : DqAll K Hd ys ds) : ∀ {as : List Addr} {dss : List (List D)}, OwnL K Hd H as dss → OwnL K Hd H (as ++ [b]) (dss ++ [ds])
  | [], [], _ => ⟨⟨ys, hb, hd⟩, trivial⟩
  | _ :: _, _ :: _, ⟨h, t⟩ => ⟨h, OwnL.snoc hb hd t⟩
  | [], _ :: _, h => h.elim
  | _ :: _, [], h => h.elim
theorem En.appL {p : Addr} {acc : List (List D)} {ds : List D} (E : En C Hd H σ ρ (v :: .ref p :: vs) (.ow (.l ds) :: .ow (.ll acc) :: ss)) :
    ∃ xs, H p = some (.lst xs) ∧ xs.length = acc.length ∧ En C Hd (upd H p (.lst (xs ++ [v]))) σ ρ (.ref p :: vs) (.ow (.ll (acc ++ [ds])) :: ss) := by
  obtain ⟨_, g, ⟨f0, _, rfl, ⟨⟨w0, e0, b, ys, rfl, rfl, k1, k2⟩, kF⟩, ⟨f1, f2, rfl, ⟨⟨w, e1, a, as, rfl, rfl, h1, h2⟩, h0⟩, h3⟩⟩, h4, h5, h6⟩ := E.sep
  cases e0
  cases e1
  have la := h2.length
  have nbp : b ≠ p := fun z => by
    subst z
    have := h5 b
    simp only [List.count_append, List.count_cons_self, List.count_nil] at this
    omega
  have nasp : ∀ x ∈ as, x ≠ p := fun x hx z => by
    subst z
    have q := h5 x
    have q1 := cnt_mem hx
    simp only [List.count_append, List.count_cons_self] at q
    omega
  have out : ∀ x ∈ f2 ++ g, x ≠ p := fun x ha z => by
    subst z
    have q := h5 x
    have q1 := cnt_mem ha
    simp only [List.count_append, List.count_cons_self] at q q1
    omega
  have k : ∀ x ∈ f2 ++ g, upd H p (.lst (as.map V.ref ++ [V.ref b])) x = H x := fun x ha => upd_ne (out x ha)
  have nF : NN C.F p := h0 p (by simp)
  have nHd : NN Hd p := h6 p (by simp)
  refine ⟨_, h1, by simpa using la, ⟨fun x o t hb e => ?_, fun x o t e => ?_, E.ext, E.new, fun x o t e => ?_, tabs_at E.tabs h1, (p :: (as ++ [b])) ++ f2, g, ⟨p :: (as ++ [b]), f2, rfl, ⟨⟨.ref p, rfl, p, as ++ [b], rfl, rfl, ?_, ?_⟩, fun x hx => ?_⟩, h3.mono (Sub.refl _) fun x hx => k x (by simp [hx])⟩, h4.mono (Sub.refl _) fun x hx => k x (by simp [hx]), fun x => ?_, fun x hx => ?_⟩⟩
  · rw [upd_ne (ne_of_nn e t nF)]; exact E.keep x o t hb e
  · rw [upd_ne (ne_of_nn e t nF)]; exact E.there x o t e
  · rw [upd_ne (ne_of_nn e t nHd)]; exact E.sub x o t e
  · rw [upd_same, List.map_append]; rfl
  · exact (h2.mono (Sub.refl _) fun x hx => upd_ne (nasp x hx)).snoc (by rw [upd_ne nbp]; exact k1) k2
  · simp only [List.mem_cons, List.mem_append, List.not_mem_nil, or_false] at hx
    rcases hx with rfl | hx | rfl
    · exact nF
    · exact h0 x (by simp [hx])
    · exact kF x (by simp)
  · have q := h5 x
    simp only [List.cons_append, List.count_append, List.count_cons, List.count_nil] at q ⊢
    omega
  · refine h6 x ?_
    simp only [List.mem_cons, List.mem_append, List.not_mem_nil, or_false] at hx ⊢
    rcases hx with ((rfl | hx | rfl) | hx) | hx
    · simp
    · simp [hx]
    · simp
    · simp [hx]
    · simp [hx]
end
def lcLGo (g : TDG) (tt : TDT) (te : TD) (is : List Nat) (k : List (List D) → Rho → Prop) : List Sl → List (List D) → Rho → Prop
  | [], acc, ρ => k acc ρ
  | s :: its, acc, ρ => g s (wipeR ρ is) fun ρ2 => tt ρ2 fun b ρ3 => cnd b (te ρ3 fun s ρ4 => match s with
    | .ow (.l ds) => lcLGo g tt te is k its (acc ++ [ds]) (wipeR ρ4 is)
    | _ => False) (lcLGo g tt te is k its acc (wipeR ρ3 is))
theorem lcLGo_w {g : TDG} {tt : TDT} {te : TD} {is : List Nat} {k : List (List D) → Rho → Prop} {its : List Sl} {ρ1 : Rho} (h : lcLGo g tt te is k its [] ρ1) : ∃ Wi : Nat → List (List D) → Rho → Prop, Wi 0 [] ρ1 ∧
  (∀ i s acc ρ, its[i]? = some s → Wi i acc ρ → g s (wipeR ρ is) fun ρ2 => tt ρ2 fun b ρ3 => cnd b (te ρ3 fun s ρ4 => match s with
    | .ow (.l ds) => Wi (i + 1) (acc ++ [ds]) (wipeR ρ4 is)
    | _ => False) (Wi (i + 1) acc (wipeR ρ3 is))) ∧ ∀ acc ρ, Wi its.length acc ρ → k acc ρ := by
  refine ⟨fun i acc ρ => lcLGo g tt te is k (its.drop i) acc ρ, h, fun i s acc ρ hs w => ?_, fun acc ρ w => ?_⟩
  · dsimp only at w
    rw [drop_get hs] at w
    exact w
  · dsimp only at w
    rw [List.drop_length] at w
    exact w
theorem lcLGo_map {α : Type} {g : TDG} {tt : TDT} {te : TD} {is : List Nat} {k : List (List D) → Rho → Prop} {f : α → Sl} {ρ : Rho} (F : α → List D) : ∀ (xs : List α) (acc : List (List D))
    (step : ∀ x ∈ xs, ∀ acc (W : List (List D) → Rho → Prop), W (acc ++ [F x]) ρ → g (f x) (wipeR ρ is) fun ρ2 => tt ρ2 fun b ρ3 => cnd b (te ρ3 fun s ρ4 => match s with
    | .ow (.l ds) => W (acc ++ [ds]) (wipeR ρ4 is)
    | _ => False) (W acc (wipeR ρ3 is))), k (acc ++ xs.map F) ρ → lcLGo g tt te is k (xs.map f) acc ρ
  | [], acc, _, h => by rw [List.map_nil, List.append_nil] at h; exact h
  | x :: xs, acc, step, h => by
    refine step x (by simp) acc (fun acc ρ => lcLGo g tt te is k (xs.map f) acc ρ) (lcLGo_map F xs _ (fun y hy => step y (by simp [hy])) ?_)
    rw [List.map_cons] at h; rw [List.append_assoc]; exact h
theorem lcLGo_rng {g : TDG} {tt : TDT} {te : TD} {is : List Nat} {k : List (List D) → Rho → Prop} {lo : Int} {n : Nat} {ρ : Rho} (F : Nat → List D)
    (step : ∀ j < n, ∀ acc (W : List (List D) → Rho → Prop), W (acc ++ [F j]) ρ → g (.da (.int (lo + (j : Nat)))) (wipeR ρ is) fun ρ2 => tt ρ2 fun b ρ3 => cnd b (te ρ3 fun s ρ4 => match s with
    | .ow (.l ds) => W (acc ++ [ds]) (wipeR ρ4 is)
    | _ => False) (W acc (wipeR ρ3 is))) (h : k ((List.range n).map F) ρ) : lcLGo g tt te is k (rgS lo n) [] ρ :=
  lcLGo_map F (List.range n) [] (fun j hj => step j (List.mem_range.mp hj)) h
def dLcL (ti : TDI) (g : TDG) (tt : TDT) (te : TD) (is : List Nat) : TD := fun ρ Q => ti ρ fun its ρ1 => cnd (Nat.ble its.length sizeLine) (lcLGo g tt te is (fun acc ρ => Q (.ow (.ll acc)) ρ) its [] (wipeR ρ1 is)) False
theorem lcL_le {C : DC} {ti : TDI} {g : TDG} {tt : TDT} {te : TD} {is js : List Nat} (hs : ∀ i ∈ js, i ∈ is) {σ : L2.St} {H : Hp} {Q : VK} (h : LE C (dLcL ti g tt te is) σ H Q) : tLc (LI C ti) (LG C js g) (LT C tt) (LE C te) is σ H Q := by
  obtain ⟨Hd, ρ, vs, ss, Qd, E, k, q⟩ := h
  refine ⟨Hd, ρ, vs, ss, _, E, fun its ρ1 J pv ps Hd1 H1 q0 l E1 Y p np => ?_, q⟩
  obtain ⟨hz0, q0⟩ := cnd_at q0
  have hz := Nat.ble_eq.mp hz0
  obtain ⟨Wi, i0, step, fin⟩ := lcLGo_w q0
  have E1w : En C Hd1 H1 σ (wipeR ρ1 is) (pv ++ vs) (ps ++ ss) := E1.back is rfl
  refine ⟨fun i m H => m = its.length - i ∧ i ≤ its.length ∧ ∃ Hd ρ acc, acc.length ≤ i ∧ En C Hd H σ ρ (.ref p :: (pv ++ vs)) (.ow (.ll acc) :: (ps ++ ss)) ∧ Wi i acc ρ, ⟨_, rfl, Nat.zero_le _, Hd1, _, [], Nat.le_refl _, E1w.newO np ⟨p, [], rfl, rfl, upd_same, trivial⟩, i0⟩, ?_⟩
  rintro i m H2 ⟨rfl, hi, Hd2, ρ2, acc, ha, E2, iv⟩
  have E2' : En C Hd2 H2 σ ρ2 (pv ++ .ref p :: vs) (ps ++ .ow (.ll acc) :: ss) := E2.over l
  have y := Y Hd2 H2 σ ρ2 _ _ i E2'
  by_cases hlt : i < its.length
  · obtain ⟨go, yl⟩ := y.2 its[i] (by simp [hlt])
    refine .inr ⟨go, fun H' => ∃ Hd ρ acc, acc.length ≤ i + 1 ∧ En C Hd H' σ ρ (.ref p :: (pv ++ vs)) (.ow (.ll acc) :: (ps ++ ss)) ∧ Wi (i + 1) acc ρ, fun H' w => ⟨_, by omega, rfl, hlt, w⟩, fun x H3 hy => ?_⟩
    obtain ⟨Hd3, E3⟩ := yl x H3 hy
    have E3a : En C Hd3 H3 σ ρ2 (x :: .ref p :: (pv ++ vs)) (its[i] :: .ow (.ll acc) :: (ps ++ ss)) := by
      have z : En C Hd3 H3 σ ρ2 ((x :: pv) ++ .ref p :: vs) ((its[i] :: ps) ++ .ow (.ll acc) :: ss) := E3
      have z2 := z.under (by simp [l])
      exact En.under (ws := [.ref p]) (rs := [.ow (.ll acc)]) z2 rfl
    refine ⟨Hd3, wipeR ρ2 is, .ref p :: (pv ++ vs), .ow (.ll acc) :: (ps ++ ss), its[i], _, E3a.wipe is, fun ρ4 σ4 Hd4 H4 q4 o4 E4 => ⟨wipe_out (o4.mono hs), Hd4, ρ4, _, _, _, E4, fun b ρ5 Hd5 H5 q5 E5 => ?_, q4⟩, step i its[i] acc ρ2 (by simp [hlt]) iv⟩
    have wo := wipe_out (o4.mono hs)
    cases b with
    | true =>
      refine iteT ?_
      refine ⟨Hd5, ρ5, _, _, _, E5, fun s ρ6 v Hd6 H6 q6 E6 => ?_, q5⟩
      split at q6
      · obtain ⟨xs, hx, hlx, E8⟩ := E6.appL
        exact ⟨xs, hx, by omega, Hd6, _, _, by simp; omega, E8.back is wo, q6⟩
      · exact q6.elim
    | false =>
      refine iteF ?_
      exact ⟨Hd5, _, acc, by omega, E5.back is wo, q5⟩
  · have e : i = its.length := by omega
    subst e
    exact .inl ⟨y.1 (Nat.le_refl _), k _ _ _ _ _ (fin acc ρ2 iv) (E2.dropU l)⟩
theorem s_setLcL {X : Cx} {C : DC} {st : Stmt} {i : Nat} {ti : TDI} {g : TDG} {tt : TDT} {te : TD} {is js : List Nat} (hs : ∀ i ∈ js, i ∈ is) (h : PS X st (tAsg (tLc (LI C ti) (LG C js g) (LT C tt) (LE C te) is) (gName i))) : PS X st (LS C (sAsg (dLcL ti g tt te is) (dgName i))) :=
  imp_s h fun D σ H q => asg_le (fun _ q => lcL_le hs q) q
/-! ### dicts with int and text keys -/
def keyS : Sl → Option Key
  | .da (.int n) => some (.inl n)
  | .da (.str x) => some (.inr x)
  | _ => none
def putD (kvs : List (Key × D)) (k : Key) (d : D) : List (Key × D) := if (kvs.any fun kv => decide (kv.1 = k)) = true then kvs.map (fun kv => if kv.1 = k then (kv.1, d) else kv) else kvs ++ [(k, d)]
def getD' (kvs : List (Key × D)) (k : Key) : Option D := (kvs.find? fun kv => decide (kv.1 = k)).map (·.2)
section
variable {K : PySem.W.Frag} {Hd : Hp}
theorem KD.any : ∀ {ps : List (Key × V)} {qs : List (Key × D)} (k : Key), KD K Hd ps qs → (ps.any fun kv => decide (kv.1 = k)) = qs.any fun kv => decide (kv.1 = k)
  | [], [], _, _ => rfl
  | p :: ps, q :: qs, k, ⟨h, t⟩ => by rw [List.any_cons, List.any_cons, KD.any k t, h.1]
  | [], _ :: _, _, h => h.elim
  | _ :: _, [], _, h => h.elim
theorem KD.get : ∀ {ps : List (Key × V)} {qs : List (Key × D)} (k : Key), KD K Hd ps qs → (∃ v d, valV ps k = some v ∧ getD' qs k = some d ∧ Dq K Hd v d) ∨ (valV ps k = none ∧ getD' qs k = none)
  | [], [], _, _ => .inr ⟨rfl, rfl⟩
  | p :: ps, q :: qs, k, ⟨h, t⟩ => by
    by_cases e : p.1 = k
    · exact .inl ⟨p.2, q.2, valV_pos e, by simp [getD', List.find?_cons, ← h.1, e], h.2⟩
    · have e2 : getD' (q :: qs) k = getD' qs k := by simp [getD', List.find?_cons, ← h.1, e]
      rw [valV_neg e, e2]
      exact KD.get k t
  | [], _ :: _, _, h => h.elim
  | _ :: _, [], _, h => h.elim
theorem KD.map {k : Key} {v : V} {d : D} (hd : Dq K Hd v d) : ∀ {ps : List (Key × V)} {qs : List (Key × D)}, KD K Hd ps qs → KD K Hd (ps.map fun kv => if kv.1 = k then (kv.1, v) else kv) (qs.map fun kv => if kv.1 = k then (kv.1, d) else kv)
  | [], [], _ => trivial
  | p :: ps, q :: qs, ⟨h, t⟩ => by
    refine ⟨?_, KD.map hd t⟩
    by_cases e : p.1 = k
    · dsimp only; rw [if_pos e, if_pos (h.1 ▸ e)]; exact ⟨h.1, hd⟩
    · dsimp only; rw [if_neg e, if_neg (h.1 ▸ e)]; exact h
  | [], _ :: _, h => h.elim
  | _ :: _, [], h => h.elim
theorem KD.snoc {k : Key} {v : V} {d : D} (hd : Dq K Hd v d) : ∀ {ps : List (Key × V)} {qs : List (Key × D)}, KD K Hd ps qs → KD K Hd (ps ++ [(k, v)]) (qs ++ [(k, d)])
  | [], [], _ => ⟨⟨rfl, hd⟩, trivial⟩
  | p :: ps, q :: qs, ⟨h, t⟩ => ⟨h, KD.snoc hd t⟩
  | [], _ :: _, h => h.elim
  | _ :: _, [], h => h.elim
theorem KD.put {k : Key} {v : V} {d : D} (hd : Dq K Hd v d) {ps : List (Key × V)} {qs : List (Key × D)} (h : KD K Hd ps qs) : KD K Hd (putK ps k v) (putD qs k d) := by
  unfold putK putD
  rw [h.any k]
  split
  · exact h.map hd
  · exact h.snoc hd
theorem KD.length : ∀ {ps : List (Key × V)} {qs : List (Key × D)}, KD K Hd ps qs → ps.length = qs.length
  | [], [], _ => rfl
  | _ :: _, _ :: _, ⟨_, t⟩ => by simp [KD.length t]
  | [], _ :: _, h => h.elim
  | _ :: _, [], h => h.elim
end
theorem putD_length (kvs : List (Key × D)) (k : Key) (d : D) : (putD kvs k d).length ≤ kvs.length + 1 := by
  unfold putD
  split
  · simp
  · simp
def dcGo (g : TDG) (tt : TDT) (tk tv : TD) (is : List Nat) (k : List (Key × D) → Rho → Prop) : List Sl → List (Key × D) → Rho → Prop
  | [], acc, ρ => k acc ρ
  | s :: its, acc, ρ => g s (wipeR ρ is) fun ρ2 => tt ρ2 fun b ρ3 => cnd b (tk ρ3 fun s ρ4 => tv ρ4 fun s' ρ5 => match keyS s, s'.toD with
    | some c, some d => dcGo g tt tk tv is k its (putD acc c d) (wipeR ρ5 is)
    | _, _ => False) (dcGo g tt tk tv is k its acc (wipeR ρ3 is))
theorem dcGo_w {g : TDG} {tt : TDT} {tk tv : TD} {is : List Nat} {k : List (Key × D) → Rho → Prop} {its : List Sl} {ρ1 : Rho} (h : dcGo g tt tk tv is k its [] ρ1) : ∃ Wi : Nat → List (Key × D) → Rho → Prop, Wi 0 [] ρ1 ∧
  (∀ i s acc ρ, its[i]? = some s → Wi i acc ρ → g s (wipeR ρ is) fun ρ2 => tt ρ2 fun b ρ3 => cnd b (tk ρ3 fun s ρ4 => tv ρ4 fun s' ρ5 => match keyS s, s'.toD with
    | some k, some d => Wi (i + 1) (putD acc k d) (wipeR ρ5 is)
    | _, _ => False) (Wi (i + 1) acc (wipeR ρ3 is))) ∧ ∀ acc ρ, Wi its.length acc ρ → k acc ρ := by
  refine ⟨fun i acc ρ => dcGo g tt tk tv is k (its.drop i) acc ρ, h, fun i s acc ρ hs w => ?_, fun acc ρ w => ?_⟩
  · dsimp only at w
    rw [drop_get hs] at w
    exact w
  · dsimp only at w
    rw [List.drop_length] at w
    exact w
def dDc (ti : TDI) (g : TDG) (tt : TDT) (tk tv : TD) (is : List Nat) : TD := fun ρ Q => ti ρ fun its ρ1 => cnd (Nat.ble its.length sizeLine) (dcGo g tt tk tv is (fun acc ρ => Q (.ow (.dk acc)) ρ) its [] (wipeR ρ1 is)) False
section
variable {C : DC} {Hd Hd' H H' : Hp} {σ σ' : L2.St} {ρ : Rho} {vs ws : List V} {ss rs : List Sl} {v : V} {s : Sl}
theorem En.putK {p : Addr} {acc : List (Key × D)} {d : D} {k : Key} (E : En C Hd H σ ρ (v :: .ref p :: vs) (.da d :: .ow (.dk acc) :: ss)) :
    ∃ kvs, H p = some (.dK kvs) ∧ kvs.length = acc.length ∧ En C Hd (upd H p (.dK (L2.putK kvs k v))) σ ρ (.ref p :: vs) (.ow (.dk (putD acc k d)) :: ss) := by
  have hd := E.top
  have E1 := E.drop
  obtain ⟨_, g, ⟨f1, f2, rfl, ⟨⟨w, e1, a, xs, rfl, rfl, h1, h2⟩, h0⟩, h3⟩, h4, h5, h6⟩ := E1.sep
  cases e1
  have out : ∀ a ∈ f2 ++ g, a ≠ p := fun a ha z => by
    subst z
    have q := h5 a
    have q1 := cnt_mem ha
    simp only [List.count_append, List.count_cons_self, List.count_nil] at q q1
    omega
  have kk : ∀ a ∈ f2 ++ g, upd H p (.dK (L2.putK xs k v)) a = H a := fun a ha => upd_ne (out a ha)
  have nF : NN C.F p := h0 p (by simp)
  have nHd : NN Hd p := h6 p (by simp)
  refine ⟨xs, h1, h2.length, ⟨fun a o t hb e => ?_, fun a o t e => ?_, E1.ext, E1.new, fun a o t e => ?_, tabs_at E1.tabs h1, [p] ++ f2, g, ⟨[p], f2, rfl, ⟨⟨.ref p, rfl, p, _, rfl, rfl, upd_same, h2.put hd⟩, h0⟩, h3.mono (Sub.refl _) fun a ha => kk a (by simp [ha])⟩, h4.mono (Sub.refl _) fun a ha => kk a (by simp [ha]), h5, h6⟩⟩
  · rw [upd_ne (ne_of_nn e t nF)]; exact E1.keep a o t hb e
  · rw [upd_ne (ne_of_nn e t nF)]; exact E1.there a o t e
  · rw [upd_ne (ne_of_nn e t nHd)]; exact E1.sub a o t e
theorem key_v {K : PySem.W.Frag} {H : Hp} {v : V} {k : Key} (hk : keyS s = some k) (h : ∀ d, s = .da d → Dq K H v d) : v = kV k := by
  unfold keyS at hk
  split at hk
  · cases hk; exact dp_int (h _ rfl)
  · cases hk; exact dp_str (h _ rfl)
  · cases hk
theorem keyS_da {k : Key} (hk : keyS s = some k) : ∃ d, s = .da d := by
  unfold keyS at hk
  split at hk
  · exact ⟨_, rfl⟩
  · exact ⟨_, rfl⟩
  · cases hk
end
theorem dc_le {C : DC} {ti : TDI} {g : TDG} {tt : TDT} {tk tv : TD} {is js : List Nat} (hs : ∀ i ∈ js, i ∈ is) {σ : L2.St} {H : Hp} {Q : VK} (h : LE C (dDc ti g tt tk tv is) σ H Q) : tDc (LI C ti) (LG C js g) (LT C tt) (LE C tk) (LE C tv) is σ H Q := by
  obtain ⟨Hd, ρ, vs, ss, Qd, E, k, q⟩ := h
  refine ⟨Hd, ρ, vs, ss, _, E, fun its ρ1 J pv ps Hd1 H1 q0 l E1 Y p np => ?_, q⟩
  obtain ⟨hz0, q0⟩ := cnd_at q0
  have hz := Nat.ble_eq.mp hz0
  obtain ⟨Wi, i0, step, fin⟩ := dcGo_w q0
  have E1w : En C Hd1 H1 σ (wipeR ρ1 is) (pv ++ vs) (ps ++ ss) := E1.back is rfl
  refine ⟨fun i m H => m = its.length - i ∧ i ≤ its.length ∧ ∃ Hd ρ acc, acc.length ≤ i ∧ En C Hd H σ ρ (.ref p :: (pv ++ vs)) (.ow (.dk acc) :: (ps ++ ss)) ∧ Wi i acc ρ, ⟨_, rfl, Nat.zero_le _, Hd1, _, [], Nat.le_refl _, E1w.newO np ⟨p, [], rfl, rfl, upd_same, trivial⟩, i0⟩, ?_⟩
  rintro i m H2 ⟨rfl, hi, Hd2, ρ2, acc, ha, E2, iv⟩
  have E2' : En C Hd2 H2 σ ρ2 (pv ++ .ref p :: vs) (ps ++ .ow (.dk acc) :: ss) := E2.over l
  have y := Y Hd2 H2 σ ρ2 _ _ i E2'
  by_cases hlt : i < its.length
  · obtain ⟨go, yl⟩ := y.2 its[i] (by simp [hlt])
    refine .inr ⟨go, fun H' => ∃ Hd ρ acc, acc.length ≤ i + 1 ∧ En C Hd H' σ ρ (.ref p :: (pv ++ vs)) (.ow (.dk acc) :: (ps ++ ss)) ∧ Wi (i + 1) acc ρ, fun H' w => ⟨_, by omega, rfl, hlt, w⟩, fun x H3 hy => ?_⟩
    obtain ⟨Hd3, E3⟩ := yl x H3 hy
    have E3a : En C Hd3 H3 σ ρ2 (x :: .ref p :: (pv ++ vs)) (its[i] :: .ow (.dk acc) :: (ps ++ ss)) := by
      have z : En C Hd3 H3 σ ρ2 ((x :: pv) ++ .ref p :: vs) ((its[i] :: ps) ++ .ow (.dk acc) :: ss) := E3
      have z2 := z.under (by simp [l])
      exact En.under (ws := [.ref p]) (rs := [.ow (.dk acc)]) z2 rfl
    refine ⟨Hd3, wipeR ρ2 is, .ref p :: (pv ++ vs), .ow (.dk acc) :: (ps ++ ss), its[i], _, E3a.wipe is, fun ρ4 σ4 Hd4 H4 q4 o4 E4 => ⟨wipe_out (o4.mono hs), Hd4, ρ4, _, _, _, E4, fun b ρ5 Hd5 H5 q5 E5 => ?_, q4⟩, step i its[i] acc ρ2 (by simp [hlt]) iv⟩
    have wo := wipe_out (o4.mono hs)
    cases b with
    | true =>
      refine iteT ?_
      refine ⟨Hd5, ρ5, _, _, _, E5, fun s ρ6 v Hd6 H6 q6 E6 => ⟨Hd6, ρ6, _, _, _, E6, fun s' ρ7 v' Hd7 H7 q7 E7 => ?_, q6⟩, q5⟩
      split at q7
      · rename_i kk d hk ed
        obtain ⟨Hd8, _, E8⟩ := E7.fz ed
        obtain ⟨dk, rfl⟩ := keyS_da hk
        have e9 : v = kV kk := key_v (K := C.K) (H := Hd8) hk fun d' e' => by cases e'; exact E8.drop.top
        have E9 : En C Hd8 H7 σ4 ρ7 (v' :: .ref p :: (pv ++ vs)) (.da d :: .ow (.dk acc) :: (ps ++ ss)) := by
          have z := En.under (ws := [v']) (rs := [.da d]) E8 rfl
          exact z.drop
        obtain ⟨kvs, hx, hlx, E10⟩ := E9.putK (k := kk)
        exact ⟨kvs, kk, e9, hx, by omega, Hd8, _, _, Nat.le_trans (putD_length _ _ _) (by omega), E10.back is wo, q7⟩
      · exact q7.elim
    | false =>
      refine iteF ?_
      exact ⟨Hd5, _, acc, by omega, E5.back is wo, q5⟩
  · have e : i = its.length := by omega
    subst e
    exact .inl ⟨y.1 (Nat.le_refl _), k _ _ _ _ _ (fin acc ρ2 iv) (E2.dropU l)⟩
section
variable {X : Cx} {C : DC} {e : Expr} {te : TD}
theorem q_dc {ti : TDI} {g : TDG} {tt : TDT} {tk tv : TD} {is js : List Nat} (hs : ∀ i ∈ js, i ∈ is) (h : PE X e (tDc (LI C ti) (LG C js g) (LT C tt) (LE C tk) (LE C tv) is)) : PE X e (LE C (dDc ti g tt tk tv is)) := imp_e h fun σ H Q q => dc_le hs q
/-- e in x, x a slot's dict -/
def dInV (neg : Bool) (i : Nat) (te : TD) : TD := fun ρ Q => te ρ fun s ρ1 => match keyS s, ρ1[i]? with
  | some k, some (.ow (.dk kvs)) => Q (.da (.bool (if neg then !(getD' kvs k).isSome else (getD' kvs k).isSome))) ρ1
  | _, _ => False
theorem inV_core {i : Nat} {neg : Bool} {σ : L2.St} {H : Hp} {Q : VK} (h : LE C (dInV neg i te) σ H Q) : LE C te σ H fun y H1 => ∃ v, σ[i]? = some (some v) ∧ ∃ a o, v = .ref a ∧ DGet H1 a y o ∧ Q (.bl (if neg then !o.isSome else o.isSome)) H1 := by
  obtain ⟨Hd, ρ, vs, ss, Qd, E, k, q⟩ := h
  refine ⟨Hd, ρ, vs, ss, _, E, fun s ρ1 v Hd1 H1 q1 E1 => ?_, q⟩
  split at q1
  · rename_i kk kvs hk hi
    obtain ⟨dk, rfl⟩ := keyS_da hk
    have e9 : v = kV kk := key_v (K := C.K) (H := Hd1) hk fun d' e' => by cases e'; exact E1.top
    obtain ⟨v', fp, hv', ⟨p, kvv, rfl, rfl, h1, h2⟩, _⟩ := E1.drop.atO hi rfl
    refine ⟨_, hv', p, valV kvv kk, rfl, e9 ▸ DGet.k h1, ?_⟩
    have e10 : (valV kvv kk).isSome = (getD' kvs kk).isSome := by
      rcases h2.get kk with ⟨v, d, e1, e2, _⟩ | ⟨e1, e2⟩ <;> rw [e1, e2] <;> rfl
    rw [e10]
    exact k _ _ _ _ _ q1 (E1.drop.push (.bl _))
  · exact q1.elim
theorem q_inV {i : Nat} (h : PE X e (tDIn (LE C te) (tVar i))) : PE X e (LE C (dInV false i te)) := imp_e h fun σ H Q q => inV_core q
theorem q_ninV {i : Nat} (h : PE X e (tDNotIn (LE C te) (tVar i))) : PE X e (LE C (dInV true i te)) := imp_e h fun σ H Q q => inV_core q
theorem t_inV {i : Nat} (h : PT X e (tB (tDIn (LE C te) (tVar i)))) : PT X e (LT C (dTst (dInV false i te))) := imp_t h fun σ H Q q => inV_core (tst_le q)
theorem t_ninV {i : Nat} (h : PT X e (tB (tDNotIn (LE C te) (tVar i)))) : PT X e (LT C (dTst (dInV true i te))) := imp_t h fun σ H Q q => inV_core (tst_le q)
end
end DL

-- DL12
set_option autoImplicit true
namespace DL
open PySem PySem.Spec PyProof.Rows L2
/-- the built-ins that no module name hides -/
structure Blt (mg : Str → Option Value) : Prop where
  len : mg "len" = none
  isinstance : mg "isinstance" = none
  int : mg "int" = none
  bool : mg "bool" = none
  str : mg "str" = none
  list : mg "list" = none
  tuple : mg "tuple" = none
  range : mg "range" = none
  enumerate : mg "enumerate" = none
  max : mg "max" = none
  min : mg "min" = none
  sum : mg "sum" = none
  all : mg "all" = none
  abs : mg "abs" = none
  repr : mg "repr" = none
  set : mg "set" = none
/-- a constant -/
abbrev GD (K : PySem.W.Frag) (mg : Str → Option Value) (x : Str) (d : D) : Prop := ∃ v u, mg x = some u ∧ RelV v u ∧ ∀ H, Dq K H v d
/-- an own exception class, as its raising asks -/
structure XC (P : Program) (w : World) (K : PySem.W.Frag) (mg : Str → Option Value) (base : Heap) (xf : XT) (x : Str) (c : Addr) (f : Str) : Prop where
  xf : xf.f c = f
  ex : ∃ (id : String) (fI : Addr) (fd : FuncData) (m : Str), XV.XCls K c id ∧ PySem.W.typeIn K (.ref c) = some (.type "type") ∧ XV.XMk K c fI fd f ∧ FnOk P w K mg base CX0 1 fI fd ["self", f] (XV.spXJ c m f) ∧ mg x = some (.ref c)
theorem pmk_c {X : Cx} {xf : XT} {x : Str} {c : Addr} {f : Str} {p pos : Pos} {e : Expr} {te : TE} (xc : XC X.prog X.w X.K X.mg X.base xf x c f) (hr : Room 2 X.A) (hg : Gl X x) (he : PE X e te)
    (hdb : (x == ("__debug__" : Str)) = false := by decide) (hs : starEach [e] X.env = (false, eval e X.env) :: starEach [] X.env := by rfl) :
    PMk X (.Call (.Name x p) [e] [] pos) (fun σ H Q => te σ H fun v H1 => ∀ d H2, H1 d = none → (∀ b o, H1 b = some o → H2 b = some o) → H2 d = some (.xd [(f, v)]) → Q (.ref c) (some d) H2) := by
  obtain ⟨id, fI, fd, m, h1, h2, h3, h4, h5⟩ := xc.ex
  exact XV.pmk_x h1 h2 h3 h4 hr hg h5 pass0 he hdb hs
theorem cnd_congr {b b' : Bool} {A B : Prop} (h : b = b') : cnd b A B = cnd b' A B := by rw [h]
theorem cnd_true {A B : Prop} : cnd true A B = A := rfl
theorem cnd_false {A B : Prop} : cnd false A B = B := rfl
theorem someQ_some {α : Type} {a : α} {Q : α → Prop} : someQ (some a) Q = Q a := rfl
theorem atD_0 {α : Type} {a : α} {r : List α} : atD (a :: r) 0 = some a := rfl
theorem atD_1 {α : Type} {a b : α} {r : List α} : atD (a :: b :: r) 1 = some b := rfl
theorem atD_2 {α : Type} {a b c : α} {r : List α} : atD (a :: b :: c :: r) 2 = some c := rfl
/-- an answer by an equal one -/
theorem qd {Q : D → Prop} {a b : D} (q : Q a) (h : a = b) : Q b := h ▸ q
theorem ixN_nat {n k : Nat} {j : Int} (e : j = (k : Nat)) (h : k < n) : ixN n j = some k := by
  subst e
  unfold ixN
  rw [if_pos (Int.natCast_nonneg k), if_pos (by omega)]
  rfl
theorem atD_nat {α : Type} {xs : List α} {k : Nat} {j : Int} {a : α} (e : j = (k : Nat)) (h : xs[k]? = some a) : atD xs j = some a := by
  subst e
  exact h
theorem get_lst {X : Cx} : PGet X (fun o i H Q => ∃ p xs j v, o = .ref p ∧ i = .int j ∧ H p = some (.lst xs) ∧ atI xs j = some v ∧ Q v H) := by
  intro pins s σ H o i ov iv Q I ro ri h
  obtain ⟨p, xs, j, v, rfl, rfl, hp, hv, q⟩ := h
  cases ro
  obtain ⟨t, rfl⟩ := ri
  obtain ⟨its, r, pl, hz⟩ := I.list (SqL.of hp)
  obtain ⟨k, h1, h2, h3, h4, h5⟩ := atI_get hv
  obtain ⟨z, ez, rz⟩ := r.get h2
  have hl := r.length
  have hn := line63
  by_cases h0 : 0 ≤ j
  · have hj : j.toNat = k := by
      rw [seqIndex_of h0 h5] at h1
      exact Option.some.inj h1
    exact wpAny_getItem_list pl.isList h0 (by omega) (by rw [hj]; simpa using ez) ⟨v, H, I, rz, q⟩
  · have hj : (j + (its.toArray.size : Int)).toNat = k := by
      rw [seqIndex_neg (by omega) h4] at h1
      rw [List.size_toArray, ← hl]
      exact Option.some.inj h1
    exact wpAny_getItem_list_neg pl.isList (by omega) (by rw [List.size_toArray] <;> omega) (by omega) (by rw [hj]; simpa using ez) ⟨v, H, I, rz, q⟩
end DL

-- DL13
set_option autoImplicit true
namespace DL
open PySem PySem.Spec PyProof.Rows L2
section
variable {X : Cx} {C : DC} {e : Expr} {te : TD} {ta : TDA}
/-! ### repr -/
@[irreducible] def shw (d : D) : Str := d.shown
def shOk (d : D) : Prop := d.showable = true ∧ d.hasDict = false ∧ d.depth ≤ 40 ∧ d.shown.length ≤ sizeLine
def reprS (d : D) (Q : Sl → Prop) : Prop := shOk d ∧ Q (.da (.str (shw d)))
theorem n_repr (hK : C.K = X.K) : DN C (XV.rRepr X.K) (da1 reprS) := .of1 fun Hd H σ ρ vs ss x d Q Qd E h1 k q => by
  obtain ⟨⟨q1, q2, q3, q4⟩, q5⟩ := q
  refine ⟨x, d, rfl, hK ▸ dq_sub E.sub h1, q1, q2, q3, q4, ?_⟩
  unfold shw at q5
  exact k _ _ Hd H q5 (E.push (.str _))
/-! ### len(set(xs)) -/
def dLenSet (te : TD) : TD := fun ρ Q => te ρ fun s ρ1 => match s.toD with
  | some (.tuple ds) => ∃ ns : List Int, ds = ns.map .int ∧ ns.length ≤ 4000 ∧ Q (.da (.int (XV.cardI ns))) ρ1
  | some (.list ds) => ∃ ns : List Int, ds = ns.map .int ∧ ns.length ≤ 4000 ∧ Q (.da (.int (XV.cardI ns))) ρ1
  | _ => False
theorem q_lenSet (hK : C.K = X.K) (h : PE X e (XV.tLenSetU X.K (LE C te))) : PE X e (LE C (dLenSet te)) := imp_e h fun σ H Q ⟨Hd, ρ, vs, ss, Qd, E, k, q⟩ =>
  ⟨Hd, ρ, vs, ss, _, E, fun s ρ1 v Hd1 H1 q1 E1 => by
    split at q1
    · rename_i ds es
      obtain ⟨ns, rfl, hl, q2⟩ := q1
      obtain ⟨Hd2, _, E2⟩ := E1.fz es
      obtain ⟨a, xs, rfl, hx, ax⟩ := dp_tup E2.top
      cases ints_of ax
      exact ⟨a, ns, rfl, .inr (hK ▸ E2.sub.seqT hx), hl, k _ _ _ _ _ q2 (E2.drop.push (.int _))⟩
    · rename_i ds es
      obtain ⟨ns, rfl, hl, q2⟩ := q1
      obtain ⟨Hd2, _, E2⟩ := E1.fz es
      obtain ⟨a, xs, rfl, hx, ax⟩ := dp_lst E2.top
      cases ints_of ax
      exact ⟨a, ns, rfl, .inl (.inl (E2.sub.rd hx)), hl, k _ _ _ _ _ q2 (E2.drop.push (.int _))⟩
    · exact q1.elim, q⟩
/-! ### xs.index(v) -/
def dIdx (i : Nat) (ta : TDA) : TD := fun ρ Q => match listAt ρ i with
  | some _ => ta ρ fun rs ρ1 => match rs with
    | [s] => match s.toD, listAt ρ1 i with
      | some d, some ds => (flatD d = true ∧ ds.all flatD = true) ∧ someQ (ds.findIdx? fun z => PyData.eqv z d) fun j => Q (.da (.int (j : Nat))) ρ1
      | _, _ => False
    | _ => False
  | none => False
theorem q_idx {i : Nat} (hK : C.K = X.K) (h : PE X e (tBM X.K "list" (rIndex X.K) (tVar i) (LA C ta))) : PE X e (LE C (dIdx i ta)) := imp_e h fun σ H Q ⟨Hd, ρ, vs, ss, Qd, E, k, q⟩ => by
  unfold dIdx at q
  cases hl : listAt ρ i with
  | none => rw [hl] at q; exact q.elim
  | some ds0 =>
    rw [hl] at q
    obtain ⟨a, xs0, hv, hx, _⟩ := E.listAt hl
    refine ⟨_, hv, .inl ⟨rfl, xs0, .inl hx⟩, Hd, ρ, vs, ss, _, E, fun rs ρ1 ws Hd1 H1 q1 l E1 => ?_, q⟩
    split at q1
    · rename_i s
      match ws, l with
      | [w], _ =>
        split at q1
        · rename_i d ds es hl1
          obtain ⟨⟨f1, f2⟩, q1⟩ := q1
          obtain ⟨j, hj, q1⟩ := someQ_inv q1
          obtain ⟨Hd2, _, E2⟩ := En.fz (v := w) (vs := vs) (ss := ss) E1 es
          obtain ⟨a', xs, hv', hx', ax⟩ := E2.drop.listAt hl1
          rw [hv] at hv'
          cases hv'
          obtain ⟨jl, e1, e2⟩ := List.findIdx?_eq_some_iff_getElem.mp hj
          obtain ⟨z, hz, dz⟩ := ax.get (i := j) (d := ds[j]) (by simp [jl])
          have fl : ∀ y ∈ ds, flatD y = true := List.all_eq_true.mp f2
          refine ⟨a, xs, w, j, z, rfl, rfl, .inl hx', flat_of E2.top f1, flats_of ax f2, hz, ?_, fun m z' hm hz' => ?_, k _ _ _ Hd2 H1 q1 (E2.drop.push (.int _))⟩
          · rw [eqV_eqv dz E2.top (fl _ (List.getElem_mem _)) f1]; exact e1
          · obtain ⟨d', hd', dz'⟩ := ax.getV hz'
            obtain ⟨hm', rfl⟩ := List.getElem?_eq_some_iff.mp hd'
            rw [eqV_eqv dz' E2.top (fl _ (List.getElem_mem _)) f1]
            exact Bool.eq_false_iff.mpr (e2 m hm)
        · exact q1.elim
    · exact q1.elim
end
/-! ### calls by keywords -/
/-- the items at these places -/
def pick {α : Type} : List Nat → List α → List α
  | [], _ => []
  | i :: is, l => match l[i]? with
    | some x => x :: pick is l
    | none => pick is l
theorem pick_vals {zs : List V} {ws : List Value} (h : Vals zs ws) : ∀ is : List Nat, Vals (pick is zs) (pick is ws)
  | [] => .nil
  | i :: is => by
    unfold pick
    cases e : zs[i]? with
    | some x =>
      obtain ⟨w, hw, rw'⟩ := h.get e
      rw [hw]
      exact .cons rw' (pick_vals h is)
    | none =>
      have l := h.length
      rw [List.getElem?_eq_none (by rw [← l]; exact List.getElem?_eq_none_iff.mp e)]
      exact pick_vals h is
theorem ArgsR.get {K : PySem.W.Frag} {Hd : Hp} : ∀ {vs : List V} {ss : List Sl} {i : Nat} {v : V}, ArgsR K Hd vs ss → vs[i]? = some v → ∃ s, ss[i]? = some s ∧ ArgR K Hd v s
  | [], [], _, _, _, e => by simp at e
  | v :: vs, s :: ss, 0, _, ⟨h, _⟩, e => by simp at e; subst e; exact ⟨s, rfl, h⟩
  | v :: vs, s :: ss, i + 1, _, ⟨_, t⟩, e => by
    obtain ⟨s', h1, h2⟩ := ArgsR.get (i := i) t (by simpa using e)
    exact ⟨s', by simpa using h1, h2⟩
  | [], _ :: _, _, _, h, _ => h.elim
  | _ :: _, [], _, _, h, _ => h.elim
theorem pick_args {K : PySem.W.Frag} {Hd : Hp} {ws : List V} {rs : List Sl} (h : ArgsR K Hd ws rs) : ∀ is : List Nat, ArgsR K Hd (pick is ws) (pick is rs)
  | [] => trivial
  | i :: is => by
    unfold pick
    cases e : ws[i]? with
    | some x =>
      obtain ⟨w, hw, rw'⟩ := h.get e
      rw [hw]
      exact ⟨rw', pick_args h is⟩
    | none =>
      have l := h.length
      rw [List.getElem?_eq_none (by rw [← l]; exact List.getElem?_eq_none_iff.mp e)]
      exact pick_args h is
/-- a def's promise, by its text, its arguments by keywords -/
theorem CalG.kw {P : Program} {w : World} {K : PySem.W.Frag} {mg : Str → Option Value} {base : Heap} {g : Bool} {k : Nat} {x : Str} {ps ks : List Str} {sp : Sp} {st : Stmt} {is : List Nat} (c : CalG P w K mg base g k x ps sp) (T : TxtF K mg x st ps)
    (hb : ∀ (kV doc pm : Value) (an : Option Addr) (cdv ct : Value) (ws : List Value), ws.length = ks.length → bindArgs (PySem.W.fnOf x x (defArgs st) (defBody st) (defScope st) .none kV doc pm an cdv ct) ⟨[], ks.zip ws⟩ = pure (ps.zip (pick is ws))) :
    ∃ f fd, FnG P w K mg base (L2.CX P w) g k f fd ps sp ∧ PySem.W.keepIn K (.ref f) = true ∧ KwB K fd ps ks (pick is) ∧ mg x = some (.ref f) := by
  obtain ⟨f, fd, st', F, kp, b, m, U⟩ := c.ex
  obtain ⟨f', fd', U', b', m'⟩ := T.ex
  obtain rfl : f = f' := by rw [m] at m'; cases m'; rfl
  obtain ⟨_, _, _, _, _, _, _, _, _, _, l1, _⟩ := U.ex
  obtain ⟨oc, od, kV, doc, pm, an, cdv, ct, osl, e2, l2, hcd⟩ := U'.ex
  obtain rfl : fd = fd' := by rw [l1] at l2; cases l2; rfl
  subst e2
  exact ⟨f, _, F, kp, ⟨fun s ws _ hl => .of_eq (hb kV doc pm an cdv ct ws hl), fun h => pick_vals h is⟩, m⟩
section
variable {X : Cx} {C : DC} {e : Expr} {g : Bool} {k j : Nat} {x : Str} {ps ks : List Str} {sp : Sp} {E : XK} {t : TA} {p pos : Pos} {st : Stmt} {is : List Nat} {kws : List Keyword}
theorem pe_gck (c : CalG X.prog X.w X.K X.mg X.base g k x ps sp) (T : TxtF X.K X.mg x st ps) (hb : ∀ (kV doc pm : Value) (an : Option Addr) (cdv ct : Value) (ws : List Value), ws.length = ks.length → bindArgs (PySem.W.fnOf x x (defArgs st) (defBody st) (defScope st) .none kV doc pm an cdv ct) ⟨[], ks.zip ws⟩ = pure (ps.zip (pick is ws)))
    (hr : Room j X.A) (hk : k ≤ j) (hgd : g = true → X.A.guards = some []) (hg : Gl X x) (tk : Takes X (fun cls d _ H => E cls d H)) (ha : PK X kws t)
    (hall : (backToKw pos (keywordEach kws X.env)).all (·.1.isSome) = true := by rfl) (hks : (backToKw pos (keywordEach kws X.env)).filterMap (·.1) = ks := by rfl) (hdb : (x == ("__debug__" : Str)) = false := by decide)
    (hpl : (backToKw pos (keywordEach kws X.env)).any (·.1.isNone) = false := by rfl) : PE X (.Call (.Name x p) [] kws pos) (tCallKw ks.length sp (pick is) E t) := by
  obtain ⟨f, fd, F, kp, b, m⟩ := c.kw T hb
  exact pe_gkw F (hr.mono hk) hgd hg m kp b (passes_call tk fun _ _ _ _ h => h) ha hall hks hdb hpl
theorem pe_gck0 (c : CalG X.prog X.w X.K X.mg X.base g k x ps sp) (T : TxtF X.K X.mg x st ps) (hb : ∀ (kV doc pm : Value) (an : Option Addr) (cdv ct : Value) (ws : List Value), ws.length = ks.length → bindArgs (PySem.W.fnOf x x (defArgs st) (defBody st) (defScope st) .none kV doc pm an cdv ct) ⟨[], ks.zip ws⟩ = pure (ps.zip (pick is ws)))
    (hr : Room j X.A) (hk : k ≤ j) (hgd : g = true → X.A.guards = some []) (hg : Gl X x) (ha : PK X kws t)
    (hall : (backToKw pos (keywordEach kws X.env)).all (·.1.isSome) = true := by rfl) (hks : (backToKw pos (keywordEach kws X.env)).filterMap (·.1) = ks := by rfl) (hdb : (x == ("__debug__" : Str)) = false := by decide)
    (hpl : (backToKw pos (keywordEach kws X.env)).any (·.1.isNone) = false := by rfl) : PE X (.Call (.Name x p) [] kws pos) (tCallKw ks.length sp (pick is) E0 t) := by
  obtain ⟨f, fd, F, kp, b, m⟩ := c.kw T hb
  exact pe_gkw F (hr.mono hk) hgd hg m kp b passL ha hall hks hdb hpl
/-- the keywords' values, over data -/
theorem k_nil : PK X [] (LA C dNil) := ⟨fun _ _ _ _ H Q I ⟨Hd, ρ, vs, ss, Qd, E, k, q⟩ => wpAny_evalAll_nil ⟨[], H, I, .nil, k [] ρ [] Hd H q rfl E⟩⟩
theorem k_cons {te : TD} {ta : TDA} {nm : Option Str} {kpos : Pos} (he : PE X e (LE C te)) (ha : PK X kws (LA C ta)) : PK X (⟨nm, e, kpos⟩ :: kws) (LA C (dCons te ta)) :=
  ⟨fun pos pins s σ H Q I ⟨Hd, ρ, vs, ss, Qd, E, k, q⟩ => (pk_cons he ha).run pos pins s σ H Q I
    ⟨Hd, ρ, vs, ss, _, E, fun s ρ1 v Hd1 H1 q1 E1 => ⟨Hd1, ρ1, v :: vs, s :: ss, _, E1, fun rs ρ2 ws Hd2 H2 q2 l E2 => k (s :: rs) ρ2 (v :: ws) Hd2 H2 q2 (by simp [l]) (E2.under l), q1⟩, q⟩⟩
end
end DL

-- XV7
set_option autoImplicit true
namespace XV
open PySem PySem.Spec PyProof.Rows L2
/-! ### try: body, and clauses «except X as n», all with the one name n, slot i -/
abbrev Cls := Value × (Addr → Value → Option Addr → TS)
def wMA (K : PySem.W.Frag) (i : Nat) (Wo : WX) (D : Ends) : List Cls → WX
  | [] => Wo
  | p :: r => wAs K p.1 i p.2 (wMA K i Wo D r) D
inductive HdsA (X : Cx) (n : Str) : List ExceptHandler → List Cls → Prop
  | nil : HdsA X n [] []
  | cons {x : Str} {c : Value} {ts : Addr → Value → Option Addr → TS} {st : Stmt} {sts : List Stmt} {q q' : Pos} {hs : List ExceptHandler} {l : List Cls} (hc : Names X x c)
      (su : ∀ (a : Addr) (oe : Obj) (cls : Value) (d : Option Addr) (ps : List (Addr × Obj)), Zc cls d oe → (∃ vs, oe.data = .fields vs) → PSs (X.suite a ((a, oe) :: ps)) (st :: sts) (ts a cls d)) (r : HdsA X n hs l) :
      HdsA X n (.ExceptHandler (some (.Name x q)) (some n) (st :: sts) q' :: hs) ((c, ts) :: l)
section
variable {X : Cx} {n : Str} {i : Nat} {body : List Stmt} {h0 : ExceptHandler} {hds : List ExceptHandler} {l : List Cls} {pos : Pos} {tb : WX → TS} {Wo : WX}
theorem ps_try_manyAs (ek : X.stack = X.env :: X.outer) (ef : X.env.frame = some X.env.locals) (nN : X.N.Nodup) (iN : X.N[i]? = some n) (ln : X.env.kindOf n = some .local) (tk : Takes X Wo)
    (hb : ∀ (W : WX) (ps : List (Addr × Obj)) (xe : Value → Shared → Prop), Takes (X.tr ps xe) W → PassesOwn (model X.prog X.w) X.A X.env xe → PSs (X.tr ps xe) body (tb W))
    (hh : HdsA X n (h0 :: hds) l) : PS X (.Try body (h0 :: hds) [] [] pos) (fun D σ H => tb (wMA X.K i Wo D l) D σ H) := by
  refine ⟨fun pins s σ H D I h => ?_⟩
  have okX := I.ok
  have frX : X.A.frames = some (X.env :: X.outer) := okX.frames.trans (congrArg some ek)
  have locX : Loc X.env.scope n := Or.inl ln
  refine wpAny_Try_except (wpAny_mono ((hb (wMA X.K i Wo D l) (X.pn ++ pins)
    (fun z s1 => wpAny (model X.prog X.w) X.A (noteFrame z X.env) (fun _ s2 => wpAny (model X.prog X.w) X.A (setFlight z none) (fun _ s3 => wpAny (model X.prog X.w) X.A (handleBy z X.env (h0 :: hds)) (SP X pins D) X.xe s3) X.xe s2) X.xe s1)
    (fun z s' xx => ?_) PassesOwn.looking).run [] s σ H D (I.toTry _) h) (fun fl s1 sp => ?_) (fun z s1 he => he))
  · obtain ⟨a, B, sI, pins', σ1, H1, cls, d, rfl, J', nb, up1, sky, na, os, ag, want⟩ := xx
    have J : Inv X pins σ1 H1 sI := J'.ofTry okX
    rw [ek] at sky
    show wpAny (model X.prog X.w) X.A (noteFrame (Value.ref a) X.env) _ _ _
    refine Sky.land Zc.steady frX ef sky fun g3 land3 up3 => ?_
    have J3 : Inv X pins σ1 H1 { s' with heap := g3 } := J.landed nb land3.1 (up1.trans up3) os ag
    obtain ⟨o3, us3, ge3, zc3, da3⟩ := land3.there
    have away : a ∉ frs (X.env :: X.outer) := fun hm => by
      obtain ⟨_, o', e', hnf⟩ := land3.2.2.1.mem hm
      rw [ge3] at e'
      cases e'
      exact hnf _ da3
    have nL : a ≠ X.env.locals := fun z => away (List.mem_filterMap.mpr ⟨X.env, by simp, by rw [ef, z]⟩)
    have nF : a ∉ X.fs := fun hm => by
      obtain ⟨en, hen, q⟩ := List.mem_filterMap.mp hm
      exact away (List.mem_filterMap.mpr ⟨en, by simp [hen], q⟩)
    have S3 := J3.suite ge3 da3 na nL nF
    -- the clauses, one after the other
    have go : ∀ {hs' : List ExceptHandler} {l' : List Cls}, HdsA X n hs' l' → wMA X.K i Wo D l' cls d σ1 H1 → wpAny (model X.prog X.w) X.A (handleBy (.ref a) X.env hs') (SP X pins D) X.xe { s' with heap := g3 } := by
      intro hs' l' hk
      induction hk with
      | nil =>
        intro w
        obtain ⟨k1, k2, k3, oe, us, T, oT, ts', hoe, hz, hda, hT, hr⟩ := id land3
        refine wpAny_handleBy_nil ?_
        unfold PySem.passOn
        refine wpAny_bind (wpAny_field hoe hda hT ?_)
        rw [if_neg (by simp : ¬ (Value.ref T == Value.none) = true)]
        have fin : wpAny (model X.prog X.w) X.A (setFlight (.ref a) X.env.frame) (fun _ s4 => wpAny (model X.prog X.w) X.A (throw (.ref a) : Sem Flow) (SP X pins D) X.xe s4) X.xe { s' with heap := g3 } := by
          rw [ef]
          exact HandSPX.setFlight_upZ land3 fun g4 sky4 up4 => wpAny_throw (tk _ _ ⟨a, B, sI, pins, σ1, H1, cls, d, rfl, J, nb, (up1.trans up3).trans up4, .inr (.inr (by rw [ek]; exact sky4)), na, os, ag, w⟩)
        first
          | exact wpAny_bind (wpAny_pure (wpAny_bind fin))
          | exact wpAny_bind fin
      | @cons x c ts st sts q q' hs2 l2 hc su r ih =>
        intro w
        obtain ⟨b, hb1, yes, no⟩ := w
        have LT : PySem.W.Looks (model X.prog X.w) g3 (typeOf (.ref a)) cls := fun A Q E s k z => wpAny_typeOf_ref (k _ _ ge3) (zc3.1 ▸ z)
        have LM := PySem.W.exm_one (M := model X.prog X.w) (J3.kIn) LT hb1
        have test : ∀ {Q : Value → Shared → Prop} {E : Value → Shared → Prop}, Q c { s' with heap := g3 } → wpAny (model X.prog X.w) (X.A.mark (some (.ref a))) (eval (.Name x q) X.env) Q E { s' with heap := g3 } := fun {Q E} z => by
          obtain ⟨h1, h2, h3 | ⟨h3, h4, h5⟩⟩ := hc
          · exact ld_glob (X := X.suite a ((a, o3) :: (X.pn ++ pins))) S3 h1 h3 z h2
          · exact ld_blt (X := X.suite a ((a, o3) :: (X.pn ++ pins))) S3 h1 h3 h4 z h5 h2
        refine wpAny_handleBy_cons (codeAny_handlers_test (test (LM.here ?_))) (fun z => nomatch z)
        cases b with
        | false => exact ih (no rfl)
        | true =>
          refine codeAny_handlers_suite_as (HandSPX.lands_againZ land3 fun g4 land4 up4 => ?_)
          have J4 : Inv X pins σ1 H1 { s' with heap := g4 } := J.landed nb land4.1 ((up1.trans up3).trans up4) os ag
          obtain ⟨o4, us4, ge4, zc4, da4⟩ := land4.there
          refine store_ok (X := X.suite a ((a, o4) :: (X.pn ++ pins))) (v := .ref a) (J4.suite ge4 da4 na nL nF) nN iN locX rfl (fun s5 S5 => ?_) (.inr ln)
          refine wpAny_mono ((su a o4 cls d (X.pn ++ pins) zc4 ⟨_, da4⟩).run [] s5 _ H1 _ S5 (yes rfl a na)) (fun fl s6 sp => ?_) (fun _ _ z => z.elim)
          have off : ∀ {σ6 : L2.St} {H6 : Hp} {Q : Shared → Prop}, Inv (X.suite a ((a, o4) :: (X.pn ++ pins))) [] σ6 H6 s6 → (∀ s7, Inv X pins (σ6.set i none) H6 s7 → Q s7) →
              wpAny (model X.prog X.w) X.A (do bindName X.env n .none; unbindBehindTheSuite X.env n q') (fun _ s7 => Q s7) X.xe s6 := fun {σ6 H6 Q} S6 z => gone_ok (S6.unsuite okX) nN iN ln z
          cases fl with
          | next => obtain ⟨σ6, H6, S6, z⟩ := sp; exact off S6 fun s7 J7 => ⟨_, _, J7, z⟩
          | brk => obtain ⟨σ6, H6, S6, z⟩ := sp; exact off S6 fun s7 J7 => ⟨_, _, J7, z⟩
          | cont => obtain ⟨σ6, H6, S6, z⟩ := sp; exact off S6 fun s7 J7 => ⟨_, _, J7, z⟩
          | ret u => obtain ⟨v6, σ6, H6, S6, r6, z⟩ := sp; exact off S6 fun s7 J7 => ⟨_, _, _, J7, r6, z⟩
    exact go hh want
  · cases fl with
    | next => obtain ⟨σ1, H1, J1, z⟩ := sp; exact wpAny_execs_nil ⟨σ1, H1, J1.ofTry okX, z⟩
    | brk => obtain ⟨σ1, H1, J1, z⟩ := sp; exact ⟨σ1, H1, J1.ofTry okX, z⟩
    | cont => obtain ⟨σ1, H1, J1, z⟩ := sp; exact ⟨σ1, H1, J1.ofTry okX, z⟩
    | ret u => obtain ⟨v, σ1, H1, J1, r, z⟩ := sp; exact ⟨v, σ1, H1, J1.ofTry okX, r, z⟩
end
end XV

-- DL14
set_option autoImplicit true
namespace DL
open PySem PySem.Spec PyProof.Rows L2
/-! ### defs that make lambdas: their code object is told -/
/-- the text of a def, its code object at c -/
structure TxtL (K : PySem.W.Frag) (mg : Str → Option Value) (x : Str) (st : Stmt) (ps : List Str) (c : Addr) : Prop where
  ex : ∃ f fd, Fun K x x st f fd ∧ Binds K fd ps [] ∧ mg x = some (.ref f) ∧ fd.code = .ref c
theorem TxtL.F {K : PySem.W.Frag} {mg : Str → Option Value} {x : Str} {st : Stmt} {ps : List Str} {c : Addr} (T : TxtL K mg x st ps c) : TxtF K mg x st ps := by
  obtain ⟨f, fd, F, b, m, _⟩ := T.ex
  exact ⟨f, fd, F, b, m⟩
/-- the code object's table -/
structure LamH (K : PySem.W.Frag) (mg : Str → Option Value) (base : Heap) (T : List (Addr × Str)) (q : Str) (c P : Addr) : Prop where
  tb : LamX.TabB base mg c P
  m : (P, q) ∈ T
  u : ∀ p ∈ T, p.1 = P → p.2 = q
section
variable {P : Program} {w : World} {K : PySem.W.Frag} {mg : Str → Option Value} {base : Heap} {g : Bool} {k : Nat} {x : Str} {ps N : List Str} {st : Stmt} {xf : XT} {c : Addr}
theorem TxtL.okD {Pd : PD} (T : TxtL K mg x st ps c) (S : FnScope N ps (defScope st)) (len : ∀ rs Qd Ed, Pd rs Qd Ed → rs.length = ps.length)
    (hbody : ∀ (f : Addr) (A : Around) (outer : List Env) (s : Shared) (H Hd : Hp) (E : XK) (rs : List Sl) (Qd : D → Prop) (Ed : Addr → D → Prop), Room k (A.deeper (envOfC x (defScope st) s.heap.objs.size f (.ref c))) → (g = true → A.guards = some []) → XW ⟨K, H, [], Hd, xf.T⟩ E xf Ed → Pd rs Qd Ed →
      ∃ t, PSs (cxOf (L2.CX P w) P w K mg base N x (defScope st) f (.ref c) A outer s H E) (defBody st) (LS ⟨K, H, [], Hd, xf.T⟩ t) ∧
        t { nx := fun _ => Qd .none, rt := fun s _ => match s.toD with | some d => Qd d | none => False } (rs ++ List.replicate (N.length - rs.length) .un)) :
    CalG P w K mg base g (k + 1) x ps (spD K xf Pd) := by
  obtain ⟨f, fd, F, b, m, hc⟩ := T.ex
  exact ⟨f, fd, st, F.okD S len fun cdv A outer s H Hd E rs Qd Ed hcd hr hgd xw hp => by
    obtain rfl : cdv = .ref c := hcd.symm.trans hc
    exact hbody f A outer s H Hd E rs Qd Ed hr hgd xw hp, F.kp, b, m, F⟩
theorem TxtL.okB {Pd : PB} (T : TxtL K mg x st ps c) (S : FnScope N ps (defScope st)) (len : ∀ o rs Qd Ed, Pd o rs Qd Ed → rs.length + 1 = ps.length)
    (hbody : ∀ (f : Addr) (A : Around) (outer : List Env) (s : Shared) (H Hd : Hp) (E : XK) (B : List Addr) (o : Ow) (rs : List Sl) (Qd : D → Ow → Prop) (Ed : Addr → D → Prop), Room k (A.deeper (envOfC x (defScope st) s.heap.objs.size f (.ref c))) → (g = true → A.guards = some []) → Pd o rs Qd Ed →
      ∃ t, PSs (cxOf (L2.CX P w) P w K mg base N x (defScope st) f (.ref c) A outer s H E) (defBody st) (LS ⟨K, H, B, Hd, xf.T⟩ t) ∧
        t { nx := fun (ρ : Rho) => match ρ[0]? with | some (Sl.bo o') => Qd .none o' | _ => False, rt := fun (s : Sl) (ρ : Rho) => match s.toD with | some d => (match ρ[0]? with | some (Sl.bo o') => Qd d o' | _ => False) | none => False } (.bo o :: (rs ++ List.replicate (N.length - (rs.length + 1)) .un))) :
    CalG P w K mg base g (k + 1) x ps (spB K xf Pd) := by
  obtain ⟨f, fd, F, b, m, hc⟩ := T.ex
  exact ⟨f, fd, st, F.okB S len fun cdv A outer s H Hd E B o rs Qd Ed hcd hr hgd hp => by
    obtain rfl : cdv = .ref c := hcd.symm.trans hc
    exact hbody f A outer s H Hd E B o rs Qd Ed hr hgd hp, F.kp, b, m, F⟩
end
/-! ### the lambda's body -/
/-- what a lambda sees of the slots -/
def strip : Rho → Rho
  | [] => []
  | s :: ρ => (match s with
    | .da d => .da d
    | .va v => .va v
    | .vs xs => .vs xs
    | _ => .un) :: strip ρ
theorem Ls.strip {C : DC} {Hd H H0 : Hp} : ∀ {xs : List (Option V)} {ss : List Sl} {fp : List Addr}, Ls C Hd H xs ss fp → Ls ⟨C.K, H0, [], Hd, C.T⟩ Hd H xs (strip ss) []
  | [], [], _, _ => rfl
  | x :: xs, s :: ss, _, ⟨f, g, e, h1, h2⟩ => ⟨[], [], rfl, by
      cases s with
      | da d => exact ⟨rfl, h1.2⟩
      | va v => exact ⟨rfl, h1.2⟩
      | vs v => exact ⟨rfl, h1.2⟩
      | un => rfl
      | ow o => rfl
      | bo o => rfl, h2.strip⟩
  | [], _ :: _, _, h => h.elim
  | _ :: _, [], _, h => h.elim
theorem En.strip {C : DC} {Hd H : Hp} {σ : L2.St} {ρ : Rho} {vs : List V} {ss : List Sl} (E : En C Hd H σ ρ vs ss) : En ⟨C.K, H, [], Hd, C.T⟩ Hd H σ (strip ρ) [] [] := by
  obtain ⟨f, g, h2, h3, h4, h5⟩ := E.sep
  exact ⟨fun _ _ _ _ e => e, fun a o t e => ⟨o, t, e⟩, Sub.refl _, fun _ _ _ _ => rfl, E.sub, E.tabs, [], [], rfl, h3.strip, fun a => by simp, fun a ha => by simp at ha⟩
def tBody (K : PySem.W.Frag) (xf : XT) (te : (Addr → D → Prop) → TD) (E : XK) : TE := fun σ H Q => ∃ Hd ρ Ed, ∃ Qd : Sl → Prop, En ⟨K, H, [], Hd, xf.T⟩ Hd H σ ρ [] [] ∧ XW ⟨K, H, [], Hd, xf.T⟩ E xf Ed ∧
  (∀ s v ρ' Hd' H', Qd s → En ⟨K, H, [], Hd, xf.T⟩ Hd' H' σ ρ' [v] [s] → Q v H') ∧ te Ed ρ fun s _ => Qd s
theorem pe_body {X : Cx} {e : Expr} {xf : XT} {E : XK} {te : (Addr → D → Prop) → TD} (h : ∀ (H0 Hd0 : Hp) (Ed : Addr → D → Prop), XW ⟨X.K, H0, [], Hd0, xf.T⟩ E xf Ed → PE X e (LE ⟨X.K, H0, [], Hd0, xf.T⟩ (te Ed))) : PE X e (tBody X.K xf te E) :=
  ⟨fun pins s σ H Q I ⟨Hd, ρ, Ed, Qd, E1, xw, k, q⟩ => (h H Hd Ed xw).run pins s σ H Q I ⟨Hd, ρ, [], [], fun s _ => Qd s, E1, fun s ρ' v Hd' H' qs E' => k s v ρ' Hd' H' qs E', q⟩⟩
/-! ### told(lambda: ..) -/
/-- what a def that tells of a call makes of it: tv of its value, tx of an exception -/
def TTok (K : PySem.W.Frag) (xf : XT) (tv : D → D) (tx : Addr → D → D → Prop) (TT : (XK → Hp → VK → Prop) → Hp → VK → Prop) : Prop :=
  ∀ (C : DC) (tl : XK → Hp → VK → Prop) (Hd H : Hp) (σ : L2.St) (ρ : Rho) (vs : List V) (ss : List Sl) (Q : VK) (Qd : D → Prop), C.K = K → C.T = xf.T → En C Hd H σ ρ vs ss →
    (∀ d v Hd' H', Qd d → En C Hd' H' σ ρ (v :: vs) (.da d :: ss) → Q v H') →
    (∀ (H2 : Hp) (E : XK) (Q2 : VK), En C Hd H2 σ ρ vs ss → (∀ c d r v dx Hd' H', tx c d r → Qd r → Gr xf.T [] Hd H2 Hd' H' → Dq K Hd' v d → H' dx = some (.xd [(xf.f c, v)]) → E (.ref c) (some dx) H') →
      (∀ d v Hd' H', Qd (tv d) → Gr xf.T [] Hd H2 Hd' H' → Dq K Hd' v d → Q2 v H') → tl E H2 Q2) → TT tl H Q
/-- slots taken as data -/
def frzS : List Nat → Rho → (Rho → Prop) → Prop
  | [], ρ, Q => Q ρ
  | i :: is, ρ, Q => match ρ[i]? with
    | some s => match s with
      | .ow o => match o.fr with
        | some d => frzS is (ρ.set i (.da d)) Q
        | none => False
      | _ => frzS is ρ Q
    | none => False
theorem En.frzS {C : DC} : ∀ (is : List Nat) {Hd H : Hp} {σ : L2.St} {ρ : Rho} {vs : List V} {ss : List Sl} {Q : Rho → Prop}, En C Hd H σ ρ vs ss → DL.frzS is ρ Q → ∃ Hd' ρ', Sub Hd Hd' ∧ En C Hd' H σ ρ' vs ss ∧ Q ρ'
  | [], Hd, _, _, ρ, _, _, _, E, q => ⟨Hd, ρ, Sub.refl _, E, q⟩
  | i :: is, Hd, H, σ, ρ, vs, ss, Q, E, q => by
    unfold DL.frzS at q
    cases hs : ρ[i]? with
    | none => rw [hs] at q; exact q.elim
    | some s =>
      rw [hs] at q
      cases s with
      | ow o =>
        dsimp only at q
        cases ho : o.fr with
        | none => rw [ho] at q; exact q.elim
        | some d =>
          rw [ho] at q
          obtain ⟨Hd1, v, s1, E1, _, _⟩ := E.fzAt (d := d) hs ho
          obtain ⟨Hd2, ρ2, s2, E2, q2⟩ := En.frzS is E1 q
          exact ⟨Hd2, ρ2, s1.trans s2, E2, q2⟩
      | un => exact En.frzS is E q
      | da d => exact En.frzS is E q
      | va v => exact En.frzS is E q
      | vs v => exact En.frzS is E q
      | bo o => exact En.frzS is E q
def dTold (is : List Nat) (tv : D → D) (tx : Addr → D → D → Prop) (te : (Addr → D → Prop) → TD) : TD := fun ρ Q => frzS is ρ fun ρ1 => te (fun c d => ∃ r, tx c d r ∧ Q (.da r) ρ1) (strip ρ1) fun s _ => match s.toD with
  | some d => Q (.da (tv d)) ρ1
  | none => False
theorem extN_sub {H H1 : Hp} (h : LamX.ExtN H H1) : Sub H H1 := fun a o t e => h a o e fun ps z => by subst z; cases t
theorem q_told {X : Cx} {C : DC} {e : Expr} {xf : XT} {is : List Nat} {tv : D → D} {tx : Addr → D → D → Prop} {te : (Addr → D → Prop) → TD} {TT : (XK → Hp → VK → Prop) → Hp → VK → Prop} (hK : C.K = X.K) (hT : C.T = xf.T) (ok : TTok X.K xf tv tx TT)
    (h : PE X e (LamX.tLam xf.T TT (tBody X.K xf te))) : PE X e (LE C (dTold is tv tx te)) := imp_e h fun σ H Q ⟨Hd, ρ, vs, ss, Qd, E, k, q⟩ => by
  refine ⟨hT ▸ E.tabs, fun H1 ex tb => ?_⟩
  obtain ⟨Hd1, ρ1, sb, E1, q1⟩ := E.frzS is q
  have E2 : En C Hd1 H1 σ ρ1 vs ss := E1.grow (Sub.refl _) (extN_sub ex) (E1.sub.trans (extN_sub ex)) (fun _ _ _ _ => rfl) (hT ▸ tb)
  refine ok C _ Hd1 H1 σ ρ1 vs ss Q (fun d => Qd (.da d) ρ1) hK hT E2 (fun d v Hd' H' qd E' => k _ ρ1 v Hd' H' qd E') fun H2 E Q2 E3 hx hv => ?_
  have E4 : En ⟨X.K, H2, [], Hd1, xf.T⟩ Hd1 H2 σ (strip ρ1) [] [] := hK ▸ hT ▸ E3.strip
  refine ⟨Hd1, strip ρ1, _, _, E4, ⟨rfl, fun Hd' H' σ' ρ' vs' ss' c d v dx ed E' dv _ hd => ?_⟩, fun s v ρ' Hd' H' qs E' => ?_, q1⟩
  · obtain ⟨r, et, ed⟩ := ed
    exact hx c d r v dx Hd' H' et ed E'.toGr dv hd
  · cases es : s.toD with
    | none => rw [es] at qs; exact qs.elim
    | some d =>
      rw [es] at qs
      obtain ⟨Hd5, _, E5⟩ := E'.fz es
      exact hv d v Hd5 H' qs E5.toGr E5.top
/-- the call by its text -/
theorem pe_told {X : Cx} {xf : XT} {TT : (XK → Hp → VK → Prop) → Hp → VK → Prop} {t : XK → TE} {x a : Str} {Ng : List Str} {st : Stmt} {c P : Addr} {k : Nat} {params : Arguments} {body : Expr} {scope : Scope} {p lpos pos : Pos} (T : TxtF X.K X.mg x st [a]) (Sg : FnScope Ng [a] (defScope st)) (hNg : Ng[0]? = some a) (hva : Vis (defScope st) a)
    (hG : ∀ g cdv, LamX.GivesTo X Ng x (defScope st) g cdv (defBody st) a (X.env.qual ++ "<lambda>") TT) (hg : Gl X x) (L : LamH X.K X.mg X.base xf.T (X.env.qual ++ "<lambda>") c P) (hcode : X.env.code = .ref c) (hr : Room (k + 2) X.A) (Ls : LamX.LamS X.env.scope scope) (hdef : defaultsOf params X.env = ([], []))
    (hbind : ∀ (q : Str) (cl : List (Str × Addr)) (pm cv ctv : Value), bindArgs (PySem.W.kla_fn "<lambda>" q params body scope cl pm cv ctv) ⟨[], []⟩ = pure [])
    (hbody : ∀ (A : Around) (outer : List Env) (s : Shared) (H : Hp) (E : XK) (f c' : Addr), Room k (A.deeper (LamX.lamEnv X scope s.heap.objs.size f c')) → PE (LamX.lamCx X A outer s H E scope f c') body (t E))
    (hdb : (x == ("__debug__" : Str)) = false := by decide) (hd : (a == ("__debug__" : Str)) = false := by decide) (hcd : (a == ("__classdict__" : Str)) = false := by decide) :
    PE X (.Call (.Name x p) [.Lambda params body scope lpos] [] pos) (LamX.tLam xf.T TT t) := by
  obtain ⟨f, fd, F, b, m⟩ := T.ex
  obtain ⟨oc, od, kV, doc, pm, an, cdv, ct, osl, rfl, lk, hc⟩ := F.ex
  exact LamX.pe_lamcall hg m F.kp lk hc b Sg hNg hva (hG f cdv) L.tb hcode L.m L.u hr Ls hdef hbind hbody hdb hd hcd
end DL

-- DL15
set_option autoImplicit true
namespace DL
open PySem PySem.Spec PyProof.Rows L2
/-! ### a def that tells: found = (); try: found = ('right', deed()); except X as error: found = (kind, error.field) ..; return found -/
/-- the class, the kind that is told, the field -/
abbrev Kd := Addr × Str × Str
def wishK (kinds : List Kd) (Q : VK) : XK := fun cls d H' => ∃ k v dx, k ∈ kinds ∧ cls = .ref k.1 ∧ d = some dx ∧ H' dx = some (.xd [(k.2.2, v)]) ∧ ∀ r, H' r = none → Q (.ref r) (upd H' r (.tup [.str k.2.1, v]))
def TTd (kinds : List Kd) : (XK → Hp → VK → Prop) → Hp → VK → Prop := fun tl H Q => ∀ p, H p = none → tl (wishK kinds Q) (upd H p (.tup [])) fun v H' => ∀ r, H' r = none → Q (.ref r) (upd H' r (.tup [.str "right", v]))
def tsT (k : Kd) : Addr → Value → Option Addr → TS := fun a cls d => tAsg (tTup (tCons (tC (.str k.2.1)) (tCons (tXf a cls d k.1 k.2.2 (tVar 2)) tNil))) (gName 1)
def clsT (k : Kd) : XV.Cls := (.ref k.1, tsT k)
/-- the try's body -/
def tbT (tl : XK → Hp → VK → Prop) (f c' : Addr) (q : Str) (W : WX) : TS := fun D σ H => ∃ E : XK, (∀ cls d σ' H', σ'.length = 3 → E cls d H' → W cls d σ' H') ∧
  tAsg (tTup (tCons (tC (.str "right")) (tCons (fun σZ HZ Q => σZ[0]? = some (some (.ref f)) ∧ HZ c' = some (LamX.CodeO c' q) ∧ tl E HZ Q) tNil))) (gName 1) D σ H
theorem takes_len {X : Cx} {W : WX} {E : XK} (t : Takes X W) (h : ∀ c d σ H, σ.length = X.N.length → E c d H → W c d σ H) : Takes X (fun c d _ H => E c d H) := fun u s' ⟨a, B, sI, pins, σ, H, cls, d, e, I, nb, up, sky, na, os, ag, w⟩ =>
  t u s' ⟨a, B, sI, pins, σ, H, cls, d, e, I, nb, up, sky, na, os, ag, h _ _ _ _ I.len w⟩
theorem tb_ok {X : Cx} {tl : XK → Hp → VK → Prop} {f c' : Addr} {q : Str} {W : WX} {st : Stmt} (n : X.N.length = 3) (tk : Takes X W)
    (h : ∀ E : XK, Takes X (fun c d _ H => E c d H) → PS X st (tAsg (tTup (tCons (tC (.str "right")) (tCons (fun σZ HZ Q => σZ[0]? = some (some (.ref f)) ∧ HZ c' = some (LamX.CodeO c' q) ∧ tl E HZ Q) tNil))) (gName 1))) : PSs X [st] (tbT tl f c' q W) :=
  ⟨fun pins s σ H D I ⟨E, hE, q⟩ => (pss_one (h E (takes_len tk fun c d σ H l e => hE c d σ H (l.trans n) e))).run pins s σ H D I q⟩
section
variable {K : PySem.W.Frag} {kinds : List Kd} {tl : XK → Hp → VK → Prop} {f c' : Addr} {q : Str} {Q : VK} {H : Hp}
theorem wish_go (all : List Kd) (ex : ∀ k ∈ all, ∀ j ∈ all, PySem.W.exmOne K (.ref k.1) (.ref j.1) = some (decide (k.1 = j.1))) (one : ∀ k ∈ all, ∀ j ∈ all, k.1 = j.1 → k = j) {k : Kd} (hk : k ∈ all) {v : V} {dx : Addr} {σ : L2.St} {H : Hp} (l : σ.length = 3) (hd : H dx = some (.xd [(k.2.2, v)]))
    (hq : ∀ r, H r = none → Q (.ref r) (upd H r (.tup [.str k.2.1, v]))) : ∀ l' : List Kd, k ∈ l' → (∀ j ∈ l', j ∈ all) →
      XV.wMA K 2 (fun _ _ _ _ => False) { nx := fun σ H => tRet (tVar 1) { nx := fun _ H' => Q .non H', rt := Q } σ H, rt := Q, bk := fun _ _ => False, ct := fun _ _ => False } (l'.map clsT) (.ref k.1) (some dx) σ H
  | [], h, _ => by cases h
  | j :: l', h, sub => by
    refine ⟨_, ex k hk j (sub j (by simp)), fun e a _ => ?_, fun e => ?_⟩
    · obtain rfl := one k hk j (sub j (by simp)) (of_decide_eq_true e)
      match σ, l with
      | [x, y, z], _ =>
        refine ⟨_, rfl, rfl, rfl, dx, _, v, rfl, hd, ?_, ?_⟩
        · simp [List.lookup]
        refine ⟨by show 2 ≤ sizeLine; decide, fun r nr => ⟨_, rfl, ?_⟩⟩
        exact hq r nr
    · refine wish_go all ex one hk l hd hq l' ?_ fun j hj => sub j (by simp [hj])
      rcases List.mem_cons.mp h with z | z
      · subst z
        exact absurd rfl (of_decide_eq_false e)
      · exact z
theorem told_reads (ex : ∀ k ∈ kinds, ∀ j ∈ kinds, PySem.W.exmOne K (.ref k.1) (.ref j.1) = some (decide (k.1 = j.1))) (one : ∀ k ∈ kinds, ∀ j ∈ kinds, k.1 = j.1 → k = j) (hc : H c' = some (LamX.CodeO c' q)) (h : TTd kinds tl H Q) :
    tSeq (tAsg (tTup tNil) (gName 1)) (tSeq (fun D σ H => tbT tl f c' q (XV.wMA K 2 (fun _ _ _ _ => False) D (kinds.map clsT)) D σ H) (tRet (tVar 1))) { nx := fun _ H' => Q .non H', rt := Q } [some (.ref f), none, none] H := by
  refine ⟨by show 0 ≤ sizeLine; decide, fun p np => ?_⟩
  refine ⟨wishK kinds Q, fun cls d σ' H' l ⟨k, v, dx, hk, e1, e2, hd, hq⟩ => ?_, ?_⟩
  · subst e1 e2
    exact wish_go kinds ex one hk l hd hq kinds hk fun _ z => z
  · refine ⟨rfl, ?_, ?_⟩
    · rw [upd_ne (ne_of_none hc np)]; exact hc
    have h1 := h p np
    have e : (fun v H' => ∀ r, H' r = none → Q (.ref r) (upd H' r (.tup [.str "right", v]))) = fun (x : V) (H1 : Hp) => tTup (fun σ H Q => Q [.str "right", x] H) [some (.ref f), some (.ref p), none] H1 fun y H2 => gName 1 y [some (.ref f), some (.ref p), none] H2 fun σ H => tRet (tVar 1) { nx := fun _ H' => Q .non H', rt := Q } σ H := by
      funext x H1
      apply propext
      constructor
      · intro z
        exact ⟨by show 2 ≤ sizeLine; decide, fun r nr => ⟨_, rfl, z r nr⟩⟩
      · rintro ⟨-, z⟩ r nr
        obtain ⟨v, e1, e2⟩ := z r nr
        cases e1
        exact e2
    rw [e] at h1
    exact h1
end
def txT (kinds : List Kd) (c : Addr) (d r : D) : Prop := ∃ k, k ∈ kinds ∧ k.1 = c ∧ r = .tuple [.str k.2.1, d]
def tvT (d : D) : D := .tuple [.str "right", d]
theorem ttd_ok {K : PySem.W.Frag} {xf : XT} {kinds : List Kd} (hf : ∀ k ∈ kinds, xf.f k.1 = k.2.2) : TTok K xf tvT (txT kinds) (TTd kinds) := by
  intro C tl Hd H σ ρ vs ss Q Qd hK hT E kq h p np
  have E2 : En C Hd (upd H p (.tup [])) σ ρ vs ss := E.grow (Sub.refl _) (sub_upd np) (E.sub.trans (sub_upd np)) (fun _ _ _ _ => rfl) (tabs_new E.tabs np)
  refine h _ _ _ E2 (fun c d r v dx Hd' H' ⟨k, hk, e1, e2⟩ qd g dv hd => ?_) fun d v Hd' H' qd g dv r nr => ?_
  · subst e1 e2
    refine ⟨k, v, dx, hk, rfl, rfl, by rw [← hf k hk]; exact hd, fun r nr => ?_⟩
    have E3 := E2.gr (B := []) g hT
    exact kq _ _ _ _ qd (E3.newT nr (.cons (.str _) (.cons (hK ▸ dv) .nil)))
  · have E3 := E2.gr (B := []) g hT
    exact kq _ _ _ _ qd (E3.newT nr (.cons (.str _) (.cons (hK ▸ dv) .nil)))
end DL
namespace DL
open PySem PySem.Spec PyProof.Rows L2
/-! ### a call of a local name that holds one of some defs -/
structure HeldG (P : Program) (w : World) (K : PySem.W.Frag) (mg : Str → Option Value) (base : Heap) (j : Nat) (f : Addr) (sp : Sp) : Prop where
  ex : ∃ k fd ps, FnG P w K mg base (L2.CX P w) false k f fd ps sp ∧ k ≤ j ∧ PySem.W.keepIn K (.ref f) = true ∧ Binds K fd ps []
def tCallV (i : Nat) (tab : List (Addr × Sp)) (E : XK) (t : TA) : TE := fun σ H Q => ∃ p, p ∈ tab ∧ σ[i]? = some (some (.ref p.1)) ∧ t σ H fun vs H1 => p.2 vs H1 Q E
section
variable {X : Cx} {C : DC} {i j : Nat} {tab : List (Addr × Sp)} {E : XK} {x : Str} {p pos : Pos} {e : Expr} {es : List Expr} {t : TA}
theorem pe_callV (hA : ∀ p, p ∈ tab → HeldG X.prog X.w X.K X.mg X.base j p.1 p.2) (hr : Room j X.A) (hN : X.N[i]? = some x) (hv : Vis X.env.scope x) (tk : Takes X (fun cls d _ H => E cls d H)) (ha : PA X (e :: es) t)
    (hdb : (x == ("__debug__" : Str)) = false := by decide) (hcd : (x == ("__classdict__" : Str)) = false := by decide)
    (he : starEach (e :: es) X.env = (false, eval e X.env) :: starEach es X.env := by rfl) (hpl : (backTo pos (starEach es X.env)).any (·.1) = false := by rfl) : PE X (.Call (.Name x p) (e :: es) [] pos) (tCallV i tab E t) := by
  refine ⟨fun pins s σ H Q I ⟨pr, hp, hs, ht⟩ => ?_⟩
  obtain ⟨k, fd, ps, F, hk, kp, b⟩ := (hA pr hp).ex
  refine wpAny_Call_Name_kw (thn ((pe_var (pos := p) hN hv hdb hcd).run pins s σ H (fun z H' => z = .ref pr.1 ∧ H' = H) I ⟨_, hs, rfl, rfl⟩) fun u s1 ⟨z, H1, I1, r1, e1, e2⟩ => ?_)
  subst e1 e2
  obtain rfl : u = .ref pr.1 := r1
  refine PySem.W.callWith_K (h₀ := X.base) I.ok.mod.kin kp (thn (ha.run pos pins s1 σ _ _ I1 ht) fun us s2 ⟨vs, H2, I2, r, q⟩ => ⟨I2.kIn, ?_⟩) he hpl
  have l := F.len _ _ _ _ q
  have bb := b s2 us I2.kIn (by rw [List.append_nil, ← r.length]; exact l)
  rw [List.append_nil] at bb
  exact run_g (args := ⟨us, []⟩) F (hr.mono hk) (fun z => nomatch z) (passes_call tk fun _ _ _ _ h => h) I2 bb r q
def dCallV (i : Nat) (tab : List (Addr × PD)) (Ed : Addr → D → Prop) (ta : TDA) : TD := fun ρ Q => match ρ[i]? with
  | some (.va v) => ∃ n : Nat, someQ tab[n]? fun (p : Addr × PD) => v = .ref p.1 ∧ ta ρ fun rs ρ1 => match argS rs with
    | some rs' => p.2 rs' (fun d => Q (.da d) ρ1) Ed
    | none => False
  | _ => False
theorem q_callV {xf : XT} {tab : List (Addr × PD)} {Ed : Addr → D → Prop} {ta : TDA} (xw : XW C E xf Ed) (h : PE X e (tCallV i (tab.map fun (p : Addr × PD) => (p.1, spD C.K xf p.2)) E (LA C ta))) : PE X e (LE C (dCallV i tab Ed ta)) := imp_e h fun σ H Q ⟨Hd, ρ, vs, ss, Qd, E0, k, q⟩ => by
  unfold dCallV at q
  split at q
  · rename_i v hv
    obtain ⟨n, q⟩ := q
    obtain ⟨pr, hn, ev, q2⟩ := someQ_inv q
    subst ev
    refine ⟨(pr.1, spD C.K xf pr.2), List.mem_map.mpr ⟨pr, List.mem_of_getElem? hn, rfl⟩, E0.atV hv, Hd, ρ, vs, ss, _, E0, fun rs ρ1 ws Hd1 H1 q1 l E1 => ?_, q2⟩
    cases er : argS rs with
    | none => rw [er] at q1; exact q1.elim
    | some rs' =>
      rw [er] at q1
      exact sp_le xw E1 l er (fun d v Hd' H' qd E' => k _ ρ1 v Hd' H' qd E') q1
  · exact q.elim
theorem held_nil : ∀ p : Addr × Sp, p ∈ ([] : List (Addr × Sp)) → HeldG X.prog X.w X.K X.mg X.base j p.1 p.2 := fun _ h => by cases h
theorem held_cons {a : Addr × Sp} {l : List (Addr × Sp)} (h : HeldG X.prog X.w X.K X.mg X.base j a.1 a.2) (t : ∀ p, p ∈ l → HeldG X.prog X.w X.K X.mg X.base j p.1 p.2) : ∀ p, p ∈ a :: l → HeldG X.prog X.w X.K X.mg X.base j p.1 p.2 := fun p hp => by
  rcases List.mem_cons.mp hp with e | e
  · subst e; exact h
  · exact t p e
/-- a def as a value -/
theorem q_def {f : Addr} (hg : Gl X x) (m : X.mg x = some (.ref f)) (hdb : (x == ("__debug__" : Str)) = false := by decide) : PE X (.Name x pos) (LE C (dV (.ref f))) := q_raw (pe_glob hg m rfl hdb)
end
/-- a def that tells of what its lambda does -/
structure ToldH (K : PySem.W.Frag) (mg : Str → Option Value) (xf : XT) (x a : Str) (Ng : List Str) (st : Stmt) (tv : D → D) (tx : Addr → D → D → Prop) (TT : (XK → Hp → VK → Prop) → Hp → VK → Prop) : Prop where
  T : TxtF K mg x st [a]
  gv : ∀ (X : Cx) (q : Str), X.K = K → X.mg = mg → ∀ g cdv, LamX.GivesTo X Ng x (defScope st) g cdv (defBody st) a q TT
  ok : TTok K xf tv tx TT
end DL
namespace DL
open PySem PySem.Spec PyProof.Rows L2
/-- an exception class whose field f an except clause reads -/
structure XF (K : PySem.W.Frag) (mg : Str → Option Value) (xa : Str → Addr) (x f : Str) : Prop where
  m : mg x = some (.ref (xa x))
  c : XfC K (xa x)
  no : PySem.W.findIn K (.ref (xa x)) f = some none
end DL

-- TP
set_option autoImplicit true
namespace TP
open PySem PySem.Spec PyProof.Rows L2 DL
inductive Row where
  | num (a b : Int) | op (k : Str) (us : List Nat)
def natD (u : Nat) : D := .int (u : Nat)
theorem natD_add (a b : Nat) : natD (a + b) = .int ((a : Nat) + (b : Nat)) := congrArg PyData.int (Int.natCast_add a b)
theorem natD_add' (a b : Nat) : ((a + b : Nat) : Int) = (a : Nat) + (b : Nat) := Int.natCast_add a b
def Row.enc : Row → D
  | .num a b => .tuple [.str "num", .tuple [.int a, .int b]]
  | .op k us => .tuple (.str k :: us.map natD)
def Row.uses : Row → List Nat
  | .num _ _ => []
  | .op _ us => us
structure Tape where
  n : Nat
  rows : List Row
  outs : List Nat
def Tape.enc (t : Tape) : D := .tuple [.int (t.n : Nat), .tuple (t.rows.map Row.enc), .tuple (t.outs.map natD)]
def Row.Ok (v : Nat) : Row → Prop
  | .num a b => (-(10 ^ 60 : Int) < a ∧ a < 10 ^ 60) ∧ (0 < b ∧ b < 10 ^ 60) ∧ Nat.gcd a.natAbs b.natAbs = 1
  | .op k us => (k = "neg" ∧ ∃ u, u < v ∧ us = [u]) ∨ ((k = "add" ∨ k = "sub" ∨ k = "mul" ∨ k = "div") ∧ ∃ u w, u < v ∧ w < v ∧ us = [u, w])
def RowsOk : Nat → List Row → Prop
  | _, [] => True
  | v, r :: rs => r.Ok v ∧ RowsOk (v + 1) rs
structure Tape.Ok (t : Tape) : Prop where
  n1 : 1 ≤ t.n
  n2 : t.n ≤ 64
  rl : t.rows.length ≤ 400
  rs : RowsOk t.n t.rows
  o1 : 1 ≤ t.outs.length
  o2 : t.outs.length ≤ 64
  os : ∀ o ∈ t.outs, o < t.n + t.rows.length
theorem Row.Ok.uses {v : Nat} {r : Row} (h : r.Ok v) : ∀ u ∈ r.uses, u < v := by
  cases r with
  | num a b => intro u hu; cases hu
  | op k us =>
    rcases h with ⟨_, u, hu, rfl⟩ | ⟨_, u, w, hu, hw, rfl⟩
    · intro x hx; simp [Row.uses] at hx; omega
    · intro x hx; simp [Row.uses] at hx; omega
theorem Row.Ok.short {v : Nat} {r : Row} (h : r.Ok v) : r.uses.length ≤ 2 := by
  cases r with
  | num a b => exact Nat.zero_le _
  | op k us =>
    rcases h with ⟨_, u, hu, rfl⟩ | ⟨_, u, w, hu, hw, rfl⟩ <;> simp [Row.uses]
theorem szle {n : Nat} (h : n ≤ 1000000) : Nat.ble n sizeLine = true := Nat.ble_eq.mpr (by unfold sizeLine; omega)
theorem rgS_len {lo : Int} {n : Nat} : (rgS lo n).length = n := by simp [rgS]
theorem max_nat {i j : Nat} : (if (j : Int) > (i : Nat) then (j : Int) else (i : Nat)) = ((max i j : Nat) : Int) := by
  split <;> omega
/-! ### lives -/
/-- pairs of the first and the last moment -/
def encL : Nat → List Nat → List (List D)
  | _, [] => []
  | k, l :: ls => [natD (k + 1), natD l] :: encL (k + 1) ls
theorem encL_length : ∀ (ls : List Nat) (k : Nat), (encL k ls).length = ls.length
  | [], _ => rfl
  | _ :: ls, k => by simp [encL, encL_length ls]
theorem encL_get : ∀ (ls : List Nat) (k i : Nat), (encL k ls)[i]? = ls[i]?.map fun l => [natD (k + i + 1), natD l]
  | [], _, _ => rfl
  | l :: ls, k, 0 => rfl
  | l :: ls, k, i + 1 => by
    show (encL (k + 1) ls)[i]? = _
    rw [encL_get ls]
    simp [show k + 1 + i + 1 = k + (i + 1) + 1 by omega]
theorem encL_set : ∀ (ls : List Nat) (k i x : Nat), (encL k ls).set i [natD (k + i + 1), natD x] = encL k (ls.set i x)
  | [], _, _, _ => rfl
  | l :: ls, k, 0, x => rfl
  | l :: ls, k, i + 1, x => by
    show _ :: (encL (k + 1) ls).set i _ = _ :: encL (k + 1) (ls.set i x)
    rw [← encL_set ls (k + 1) i x, show k + 1 + i + 1 = k + (i + 1) + 1 by omega]
theorem encL_range : ∀ (m k : Nat), (List.range' k m).map (fun j => [natD (j + 1), natD (j + 1)]) = encL k ((List.range' k m).map (· + 1))
  | 0, _ => rfl
  | m + 1, k => by
    rw [List.range'_succ, List.map_cons, List.map_cons, encL_range m (k + 1)]
    rfl
theorem encL_start (m : Nat) : (List.range m).map (fun j => ([.int (0 + (j : Nat) + 1), .int (0 + (j : Nat) + 1)] : List D)) = encL 0 ((List.range m).map (· + 1)) := by
  rw [List.range_eq_range', ← encL_range]
  apply List.map_congr_left
  intro j _
  rw [Int.zero_add]
  rfl
def useAt (n k : Nat) (ls : List Nat) (u : Nat) : List Nat := if n ≤ u then ls.set (u - n) (max (ls.getD (u - n) 0) k) else ls
def useRow (n k : Nat) (ls : List Nat) (r : Row) : List Nat := r.uses.foldl (useAt n k) ls
def useRows (n : Nat) : Nat → List Row → List Nat → List Nat
  | _, [], ls => ls
  | k, r :: rs, ls => useRows n (k + 1) rs (useRow n k ls r)
def outAt (n m : Nat) (ls : List Nat) (o : Nat) : List Nat := if n ≤ o then ls.set (o - n) m else ls
def lasts0 (m : Nat) : List Nat := (List.range m).map (· + 1)
def Tape.lasts1 (t : Tape) : List Nat := useRows t.n 0 t.rows (lasts0 t.rows.length)
def Tape.lasts (t : Tape) : List Nat := t.outs.foldl (outAt t.n t.rows.length) t.lasts1
theorem useAt_length {n k : Nat} {ls : List Nat} {u : Nat} : (useAt n k ls u).length = ls.length := by unfold useAt; split <;> simp
theorem useRow_length {n k : Nat} {r : Row} : ∀ {ls : List Nat}, (useRow n k ls r).length = ls.length := by
  unfold useRow
  induction r.uses with
  | nil => intro ls; rfl
  | cons u us ih => intro ls; rw [List.foldl_cons, ih, useAt_length]
theorem useRows_length {n : Nat} : ∀ {rs : List Row} {k : Nat} {ls : List Nat}, (useRows n k rs ls).length = ls.length
  | [], _, _ => rfl
  | r :: rs, k, ls => by rw [useRows, useRows_length, useRow_length]
theorem outAt_length {n k : Nat} {ls : List Nat} {u : Nat} : (outAt n k ls u).length = ls.length := by unfold outAt; split <;> simp
theorem lasts0_length {m : Nat} : (lasts0 m).length = m := by simp [lasts0]
theorem lasts1_length {t : Tape} : t.lasts1.length = t.rows.length := by rw [Tape.lasts1, useRows_length, lasts0_length]
theorem lasts_length {t : Tape} : t.lasts.length = t.rows.length := by
  unfold Tape.lasts
  have : ∀ (os : List Nat) (ls : List Nat), (os.foldl (outAt t.n t.rows.length) ls).length = ls.length := by
    intro os
    induction os with
    | nil => intro ls; rfl
    | cons o os ih => intro ls; rw [List.foldl_cons, ih, outAt_length]
  rw [this, lasts1_length]
/-- each value's first and last moment -/
def pairs : Nat → List Nat → List (Nat × Nat)
  | _, [] => []
  | k, l :: ls => (k + 1, l) :: pairs (k + 1) ls
def lifeL (p : Nat × Nat) : List D := [natD p.1, natD p.2]
theorem encL_pairs : ∀ (ls : List Nat) (k : Nat), encL k ls = (pairs k ls).map lifeL
  | [], _ => rfl
  | l :: ls, k => by rw [encL, pairs, List.map_cons, encL_pairs ls (k + 1)]; rfl
theorem pairs_length : ∀ (ls : List Nat) (k : Nat), (pairs k ls).length = ls.length
  | [], _ => rfl
  | l :: ls, k => by simp [pairs, pairs_length ls]
theorem pairs_get : ∀ (ls : List Nat) (k i : Nat), (pairs k ls)[i]? = ls[i]?.map fun l => (k + i + 1, l)
  | [], _, _ => rfl
  | l :: ls, k, 0 => rfl
  | l :: ls, k, i + 1 => by
    show (pairs (k + 1) ls)[i]? = _
    rw [pairs_get ls]
    simp [show k + 1 + i + 1 = k + (i + 1) + 1 by omega]
/-- last moments that can be -/
def LsOk (m : Nat) (ls : List Nat) : Prop := ∀ i l, ls[i]? = some l → i + 1 ≤ l ∧ l ≤ m
theorem LsOk.set {m : Nat} {ls : List Nat} (h : LsOk m ls) {i x : Nat} (h1 : i < ls.length → i + 1 ≤ x) (h2 : x ≤ m) : LsOk m (ls.set i x) := by
  intro j l e
  by_cases c : i = j
  · subst c
    by_cases hi : i < ls.length
    · rw [List.getElem?_set_self hi] at e
      cases e
      exact ⟨h1 hi, h2⟩
    · rw [List.getElem?_eq_none (by rw [List.length_set]; omega)] at e
      cases e
  · rw [List.getElem?_set_ne c] at e
    exact h j l e
theorem LsOk.useAt {m n k u : Nat} {ls : List Nat} (h : LsOk m ls) (hk : k ≤ m) : LsOk m (useAt n k ls u) := by
  unfold TP.useAt
  split
  · by_cases hi : u - n < ls.length
    · have g := h _ _ (List.getElem?_eq_getElem hi)
      have e : ls.getD (u - n) 0 = ls[u - n] := by rw [List.getD_eq_getElem?_getD, List.getElem?_eq_getElem hi]; rfl
      refine h.set (fun _ => ?_) ?_ <;> rw [e] <;> omega
    · rw [List.set_eq_of_length_le (by omega)]; exact h
  · exact h
theorem LsOk.useRow {m n k : Nat} {r : Row} (hk : k ≤ m) : ∀ {ls : List Nat}, LsOk m ls → LsOk m (useRow n k ls r) := by
  unfold TP.useRow
  induction r.uses with
  | nil => intro ls h; exact h
  | cons u us ih => intro ls h; rw [List.foldl_cons]; exact ih (h.useAt hk)
theorem LsOk.useRows {m n : Nat} : ∀ {rs : List Row} {k : Nat} {ls : List Nat}, k + rs.length ≤ m → LsOk m ls → LsOk m (useRows n k rs ls)
  | [], _, _, _, h => h
  | r :: rs, k, ls, hk, h => by
    rw [List.length_cons] at hk
    exact LsOk.useRows (n := n) (rs := rs) (k := k + 1) (ls := TP.useRow n k ls r) (by omega) (LsOk.useRow (by omega) h)
theorem lasts0_ok {m : Nat} : LsOk m (lasts0 m) := by
  intro i l e
  unfold lasts0 at e
  rw [List.getElem?_map] at e
  by_cases hi : i < m
  · rw [List.getElem?_range hi] at e
    cases e
    show i + 1 ≤ i + 1 ∧ i + 1 ≤ m
    omega
  · rw [List.getElem?_eq_none (by simp; omega)] at e
    cases e
theorem lasts_ok {t : Tape} : LsOk t.rows.length t.lasts := by
  unfold Tape.lasts
  have : ∀ (os : List Nat) (ls : List Nat), ls.length = t.rows.length → LsOk t.rows.length ls → LsOk t.rows.length (os.foldl (outAt t.n t.rows.length) ls) := by
    intro os
    induction os with
    | nil => intro ls _ h; exact h
    | cons o os ih =>
      intro ls hl h
      rw [List.foldl_cons]
      refine ih _ (by rw [outAt_length]; exact hl) ?_
      unfold outAt
      split
      · exact h.set (fun hi => by omega) (Nat.le_refl _)
      · exact h
  exact this _ _ lasts1_length (LsOk.useRows (by omega) lasts0_ok)
def Tape.lives (t : Tape) : List (Nat × Nat) := pairs 0 t.lasts
theorem lives_ok {t : Tape} : ∀ p ∈ t.lives, 1 ≤ p.1 ∧ p.1 ≤ p.2 ∧ p.2 ≤ t.rows.length := by
  intro p hp
  obtain ⟨i, hi⟩ := List.mem_iff_getElem?.mp hp
  rw [Tape.lives, pairs_get] at hi
  cases e : t.lasts[i]? with
  | none => rw [e] at hi; cases hi
  | some l =>
    rw [e] at hi
    cases hi
    have := lasts_ok i l e
    show 1 ≤ 0 + i + 1 ∧ 0 + i + 1 ≤ l ∧ l ≤ t.rows.length
    omega
/-- how many live at a moment -/
def loadN (lv : List (Nat × Nat)) (mo : Nat) : Nat := lv.countP fun p => decide (p.1 ≤ mo) && decide (mo ≤ p.2)
theorem flat_rep {d : D} : ∀ n : Nat, (List.replicate n [d]).flatten = (List.range n).map fun _ => d
  | 0 => rfl
  | n + 1 => by
    rw [List.replicate_succ, List.flatten_cons, flat_rep n]
    simp [List.map_const', List.replicate_succ]
/-- a table of m numbers -/
def tab (m : Nat) (g : Nat → Nat) : List D := (List.range m).map fun i => natD (g i)
theorem tab_length {m : Nat} {g : Nat → Nat} : (tab m g).length = m := by simp [tab]
theorem tab_get {m i : Nat} {g : Nat → Nat} (h : i < m) : (tab m g)[i]? = some (natD (g i)) := by simp [tab, h]
theorem tab_set {m i : Nat} {g : Nat → Nat} {x : Nat} : (tab m g).set i (natD x) = tab m fun j => if j = i then x else g j := by
  apply List.ext_getElem?
  intro j
  by_cases hj : j < m
  · rw [tab_get hj]
    by_cases e : i = j
    · subst e
      rw [List.getElem?_set_self (by rw [tab_length]; exact hj), if_pos rfl]
    · rw [List.getElem?_set_ne e, tab_get hj, if_neg (Ne.symm e)]
  · rw [List.getElem?_eq_none (by rw [List.length_set, tab_length]; omega), List.getElem?_eq_none (by rw [tab_length]; omega)]
theorem tab_congr {m : Nat} {g h : Nat → Nat} (e : ∀ i, g i = h i) : tab m g = tab m h := by rw [show g = h from funext e]
theorem loadN_snoc {a : List (Nat × Nat)} {p : Nat × Nat} {mo : Nat} : loadN (a ++ [p]) mo = loadN a mo + if p.1 ≤ mo ∧ mo < p.2 + 1 then 1 else 0 := by
  unfold loadN
  rw [List.countP_append, List.countP_singleton]
  congr 1
  by_cases c : p.1 ≤ mo ∧ mo < p.2 + 1
  · rw [if_pos c, if_pos]; simp; omega
  · rw [if_neg c, if_neg]; simp; omega
/-- the values that live at a moment -/
def liveF (n mo : Nat) (k : Nat) (p : Nat × Nat) : Option D := if p.1 ≤ mo ∧ mo ≤ p.2 then some (natD (n + k)) else none
def Tape.liveAt (t : Tape) (mo : Nat) : List D := enF (liveF t.n mo) 0 t.lives
def Tape.loads (t : Tape) : List Nat := (List.range (t.rows.length + 1)).map (loadN t.lives)
/-! ### greatest -/
def maxN (ls : List Nat) : Nat := ls.foldr max 0
theorem maxN_ge {ls : List Nat} : ∀ x ∈ ls, x ≤ maxN ls := by
  induction ls with
  | nil => intro x h; cases h
  | cons a ls ih =>
    intro x h
    rcases List.mem_cons.mp h with rfl | h
    · exact Nat.le_max_left _ _
    · exact Nat.le_trans (ih x h) (Nat.le_max_right _ _)
theorem maxN_mem {ls : List Nat} (h : ls ≠ []) : maxN ls ∈ ls := by
  induction ls with
  | nil => exact (h rfl).elim
  | cons a ls ih =>
    show max a (maxN ls) ∈ a :: ls
    by_cases e : ls = []
    · subst e; simp [maxN]
    · have := ih e
      by_cases c : a ≤ maxN ls
      · rw [Nat.max_eq_right c]; exact List.mem_cons_of_mem _ this
      · rw [Nat.max_eq_left (by omega)]; exact List.mem_cons_self
def toI (x : Nat) : Int := x
theorem max_is {ls : List Nat} (h : ls ≠ []) {m : Int} (h1 : m ∈ ls.map toI) (h2 : ∀ y ∈ ls.map toI, y ≤ m) : m = (maxN ls : Nat) := by
  obtain ⟨x, hx, rfl⟩ := List.mem_map.mp h1
  have a := maxN_ge x hx
  have b := h2 _ (List.mem_map_of_mem (maxN_mem h))
  unfold toI at b ⊢
  omega
theorem natD_map (ls : List Nat) : ls.map natD = (ls.map toI).map PyData.int := by rw [List.map_map]; rfl
theorem maxQ {ls : List Nat} {Q : Sl → Prop} (h : ls ≠ []) (q : Q (.da (natD (maxN ls)))) : maxD (.list (ls.map natD)) Q :=
  ⟨ls.map toI, natD_map ls, by rw [List.length_map]; exact List.length_pos_iff.mpr h, fun m h1 h2 => by rw [max_is h h1 h2]; exact q⟩
def Tape.peak (t : Tape) : Nat := maxN t.loads
theorem loads_length {t : Tape} : t.loads.length = t.rows.length + 1 := by simp [Tape.loads]
theorem loads_ne {t : Tape} : t.loads ≠ [] := by
  intro h
  have := loads_length (t := t)
  rw [h] at this
  cases this
end TP

-- K81A
set_option autoImplicit false
namespace K81
open PySem PySem.Spec PyProof.Rows L2 DL TP
def topS (i : Nat) : Stmt := PySem.Challenge.pw_allslopes_k81_whole_lives_and_boxes.main.body.getD i (.Pass ⟨0, 0, 0, 0⟩)
/-- an int between two bounds -/
def wholeD (d : D) (lo hi : Int) : Bool := match d with
  | .int i => decide (lo ≤ i) && decide (i ≤ hi)
  | _ => false
theorem whole_t {d : D} {lo hi : Int} (h : wholeD d lo hi = true) : ∃ i, d = .int i ∧ lo ≤ i ∧ i ≤ hi := by
  cases d with
  | int i => exact ⟨i, rfl, by simpa [wholeD] using h⟩
  | _ => cases h
theorem wholeN {u : Nat} {lo hi : Int} (h : lo ≤ u ∧ (u : Int) ≤ hi) : wholeD (.int (u : Nat)) lo hi = true := by simp [wholeD, h]
theorem not_f {b : Bool} (h : (!b) = false) : b = true := by cases b <;> first | rfl | cases h
theorem not_t {b : Bool} (h : (!b) = true) : b = false := by cases b <;> first | rfl | cases h
abbrev CMOST_NUMBER : D := .int (10 ^ 60)
abbrev CPAIR_KINDS : D := .tuple [.str "add", .str "sub", .str "mul", .str "div"]
abbrev CMOST_INPUTS : D := .int 64
abbrev CMOST_ROWS : D := .int 400
abbrev CMOST_OUTS : D := .int 64
abbrev CMOST_BOX : D := .int 399
def gcdOk (a b : D) : Bool := match a, b with
  | .int a, .int b => decide (((Nat.gcd a.natAbs b.natAbs : Nat) : Int) = 1)
  | _, _ => false
def fracD (d : D) : Bool := match d with
  | .tuple [a, b] => wholeD a (1 - 10 ^ 60) (10 ^ 60 - 1) && wholeD b 1 (10 ^ 60 - 1) && gcdOk a b
  | _ => false
def kindD (k : Str) : Bool := (([.str "add", .str "sub", .str "mul", .str "div"] : List D).any fun z => PyData.eqv z (.str k))
def oneD (f : D → Bool) : List D → Bool
  | [x] => f x
  | _ => false
def twoD (f : D → Bool) : List D → Bool
  | [x, y] => f x && f y
  | _ => false
def rowOk (values : Int) (d : D) : Bool := match d with
  | .tuple (.str k :: r) => if decide (k = "num") = true then oneD fracD r else if decide (k = "neg") = true then oneD (fun x => wholeD x 0 (values - 1)) r else kindD k && twoD (fun x => wholeD x 0 (values - 1)) r
  | _ => false
section
variable {P : Program} {w : World} {K : PySem.W.Frag} {mg : Str → Option Value} {base : Heap} {xf : XT} {xa : Str → Addr}
abbrev sIsWhole : Stmt := topS 14
abbrev nIsWhole : List Str := ["thing", "least", "most"]
theorem scIsWhole : FnScope nIsWhole ["thing", "least", "most"] (defScope sIsWhole) := ⟨rfl, rfl, rfl, by decide +kernel, rfl, by decide +kernel, by decide +kernel⟩
def PIsWhole : PD := fun rs Qd _ => match rs with
  | [.da d, .da (.int lo), .da (.int hi)] => Qd (.bool (wholeD d lo hi))
  | _ => False
theorem c_is_whole (T : TxtF K mg "is_whole" sIsWhole ["thing", "least", "most"]) (B : Blt mg) : CalG P w K mg base false 1 "is_whole" ["thing", "least", "most"] (spD K xf PIsWhole) := by
  have m_isinstance := B.isinstance
  have m_bool := B.bool
  have m_int := B.int
  refine T.okD (xf := xf) (k := 0) scIsWhole (fun rs Qd Ed hp => ?_) fun f cdv A outer s H Hd E rs Qd Ed hr hgd xw hp => ?_
  · unfold PIsWhole at hp; split at hp
    · rfl
    · exact hp.elim
  refine ⟨_, (ss_one (s_ret (q_and (q_isi rfl (fun _ _ _ _ h => k_int h) (pe_callB call_isi (by rfl) m_isinstance PyProof.Rows.boot_isinstance (pa_cons (q_var (pv 0)) (pa_cons (pe_bltn (by rfl) m_int PyProof.Rows.boot_int rfl) pa_nil)))) (q_and (q_not (q_isi rfl (fun _ _ _ _ h => k_bool h) (pe_callB call_isi (by rfl) m_isinstance PyProof.Rows.boot_isinstance (pa_cons (q_var (pv 0)) (pa_cons (pe_bltn (by rfl) m_bool PyProof.Rows.boot_bool rfl) pa_nil))))) (q_one (q_chain o_le o_le (pe_chain op_le op_le (q_var (pv 1)) (q_var (pv 0)) (q_var (pv 2))))))))), ?_⟩
  unfold PIsWhole at hp; split at hp
  rotate_left
  · exact hp.elim
  rename_i d lo hi
  cases d with
  | int i =>
    have q' : Qd (.bool (decide (lo ≤ i) && decide (i ≤ hi))) := hp
    refine cnd_of (fun h1 => ?_) fun h1 => ?_
    · rw [h1] at q'; exact q'
    · rw [h1] at q'; exact q'
  | _ => exact hp
abbrev sIsFraction : Stmt := topS 15
abbrev nIsFraction : List Str := ["thing"]
theorem scIsFraction : FnScope nIsFraction ["thing"] (defScope sIsFraction) := ⟨rfl, rfl, rfl, by decide +kernel, rfl, by decide +kernel, by decide +kernel⟩
def PIsFraction : PD := fun rs Qd _ => match rs with
  | [.da d] => Qd (.bool (fracD d))
  | _ => False
theorem c_is_fraction (T : TxtF K mg "is_fraction" sIsFraction ["thing"]) (B : Blt mg) (c_is_whole : CalG P w K mg base false 1 "is_whole" ["thing", "least", "most"] (spD K xf PIsWhole)) (g_MOST_NUMBER : GD K mg "MOST_NUMBER" CMOST_NUMBER) (m_gcd : mg "gcd" = some (.builtin "math.gcd")) : CalG P w K mg base false 2 "is_fraction" ["thing"] (spD K xf PIsFraction) := by
  have m_len := B.len
  have m_isinstance := B.isinstance
  have m_tuple := B.tuple
  refine T.okD (xf := xf) (k := 1) scIsFraction (fun rs Qd Ed hp => ?_) fun f cdv A outer s H Hd E rs Qd Ed hr hgd xw hp => ?_
  · unfold PIsFraction at hp; split at hp
    · rfl
    · exact hp.elim
  refine ⟨_, (ss_cons (s_if (t_w (w_or (t_not (t_val (q_isi rfl (fun _ _ _ _ h => k_tuple h) (pe_callB call_isi (by rfl) m_isinstance PyProof.Rows.boot_isinstance (pa_cons (q_var (pv 0)) (pa_cons (pe_bltn (by rfl) m_tuple PyProof.Rows.boot_tuple rfl) pa_nil)))))) (w_or1 (t_bin (o_ne rfl) (pt_cmpR (op_neU hr.units) (q_lenV rfl (pe_callB call_len (by rfl) m_len PySem.boot_len (pa_cons (pv 0) pa_nil))) q_int (nomark _)))))) (ss_one (s_ret q_bl)) ss_nil) (ss_cons (s_if (t_w (w_or (t_not (t_val (q_call xw (pe_gc c_is_whole hr (by decide) (fun z => nomatch z) (by rfl) (takes_of rfl rfl rfl rfl) (a_cons (q_ixV rfl (pe_ix ix_seq (pv 0) q_int (fun _ _ => rfl))) (a_cons (q_bin o_sub (pe_op op_sub q_int (q_gdata (by rfl) g_MOST_NUMBER))) (a_cons (q_bin o_sub (pe_op op_sub (q_gdata (by rfl) g_MOST_NUMBER) q_int)) a_nil))))))) (w_or1 (t_not (t_val (q_call xw (pe_gc c_is_whole hr (by decide) (fun z => nomatch z) (by rfl) (takes_of rfl rfl rfl rfl) (a_cons (q_ixV rfl (pe_ix ix_seq (pv 0) q_int (fun _ _ => rfl))) (a_cons q_int (a_cons (q_bin o_sub (pe_op op_sub (q_gdata (by rfl) g_MOST_NUMBER) q_int)) a_nil)))))))))) (ss_one (s_ret q_bl)) ss_nil) (ss_one (s_ret (q_bin (o_eq rfl) (pe_cmpR (op_eqU hr.units) (q_b n_gcd (pe_callBfun cr_gcd (by rfl) m_gcd (a_cons (q_ixV rfl (pe_ix ix_seq (pv 0) q_int (fun _ _ => rfl))) (a_cons (q_ixV rfl (pe_ix ix_seq (pv 0) q_int (fun _ _ => rfl))) a_nil)))) q_int (nomark _))))))), ?_⟩
  unfold PIsFraction at hp; split at hp
  rotate_left
  · exact hp.elim
  rename_i d
  cases d with
  | tuple ds =>
    match ds, hp with
    | [], q => exact q
    | [_], q => exact q
    | a :: b :: c :: r, q => (conv => whnf); exact q
    | [a, b], q =>
      have e : fracD (.tuple [a, b]) = (wholeD a (1 - 10 ^ 60) (10 ^ 60 - 1) && wholeD b 1 (10 ^ 60 - 1) && gcdOk a b) := rfl
      rw [e] at q
      (conv => whnf)
      refine cnd_of (fun h1 => ?_) fun h1 => ?_
      · rw [not_t h1] at q; exact q
      (conv => whnf)
      refine cnd_of (fun h2 => ?_) fun h2 => ?_
      · rw [not_t h2, Bool.and_false] at q; exact q
      rw [not_f h1, not_f h2] at q
      obtain ⟨i, rfl, _⟩ := whole_t (not_f h1)
      obtain ⟨j, rfl, _⟩ := whole_t (not_f h2)
      exact q
  | _ => exact hp
abbrev sWrongRow : Stmt := topS 21
abbrev nWrongRow : List Str := ["values", "thing", "part"]
theorem scWrongRow : FnScope nWrongRow ["values", "thing"] (defScope sWrongRow) := ⟨rfl, rfl, rfl, by decide +kernel, rfl, by decide +kernel, by decide +kernel⟩
def PWrongRow : PD := fun rs Qd _ => match rs with
  | [.da (.int v), .da d] => Qd (.bool (!rowOk v d))
  | _ => False
theorem c_wrong_row (T : TxtF K mg "wrong_row" sWrongRow ["values", "thing"]) (B : Blt mg) (c_is_fraction : CalG P w K mg base false 2 "is_fraction" ["thing"] (spD K xf PIsFraction)) (c_is_whole : CalG P w K mg base false 1 "is_whole" ["thing", "least", "most"] (spD K xf PIsWhole)) (g_PAIR_KINDS : GD K mg "PAIR_KINDS" CPAIR_KINDS) : CalG P w K mg base false 3 "wrong_row" ["values", "thing"] (spD K xf PWrongRow) := by
  have m_isinstance := B.isinstance
  have m_str := B.str
  have m_len := B.len
  have m_tuple := B.tuple
  have m_all := B.all
  refine T.okD (xf := xf) (k := 2) scWrongRow (fun rs Qd Ed hp => ?_) fun f cdv A outer s H Hd E rs Qd Ed hr hgd xw hp => ?_
  · unfold PWrongRow at hp; split at hp
    · rfl
    · exact hp.elim
  refine ⟨_, (ss_cons (s_if (t_w (w_or (t_not (t_val (q_isi rfl (fun _ _ _ _ h => k_tuple h) (pe_callB call_isi (by rfl) m_isinstance PyProof.Rows.boot_isinstance (pa_cons (q_var (pv 1)) (pa_cons (pe_bltn (by rfl) m_tuple PyProof.Rows.boot_tuple rfl) pa_nil)))))) (w_or (t_bin o_lt (pt_cmpR op_lt (q_lenV rfl (pe_callB call_len (by rfl) m_len PySem.boot_len (pa_cons (pv 1) pa_nil))) q_int (nomark _))) (w_or1 (t_not (t_val (q_isi rfl (fun _ _ _ _ h => k_str h) (pe_callB call_isi (by rfl) m_isinstance PyProof.Rows.boot_isinstance (pa_cons (q_ixV rfl (pe_ix ix_seq (pv 1) q_int (fun _ _ => rfl))) (pa_cons (pe_bltn (by rfl) m_str PyProof.Rows.boot_str rfl) pa_nil)))))))))) (ss_one (s_ret q_bl)) ss_nil) (ss_cons (s_if (t_bin (o_eq rfl) (pt_cmpR (op_eqU hr.units) (q_ixV rfl (pe_ix ix_seq (pv 1) q_int (fun _ _ => rfl))) q_str (nomark _))) (ss_one (s_ret (q_or (q_bin (o_ne rfl) (pe_cmpR (op_neU hr.units) (q_lenV rfl (pe_callB call_len (by rfl) m_len PySem.boot_len (pa_cons (pv 1) pa_nil))) q_int (nomark _))) (q_one (q_not (q_call xw (pe_gc c_is_fraction hr (by decide) (fun z => nomatch z) (by rfl) (takes_of rfl rfl rfl rfl) (a_cons (q_ixV rfl (pe_ix ix_seq (pv 1) q_int (fun _ _ => rfl))) a_nil)))))))) ss_nil) (ss_cons (s_if (t_bin (o_eq rfl) (pt_cmpR (op_eqU hr.units) (q_ixV rfl (pe_ix ix_seq (pv 1) q_int (fun _ _ => rfl))) q_str (nomark _))) (ss_one (s_ret (q_or (q_bin (o_ne rfl) (pe_cmpR (op_neU hr.units) (q_lenV rfl (pe_callB call_len (by rfl) m_len PySem.boot_len (pa_cons (pv 1) pa_nil))) q_int (nomark _))) (q_one (q_not (q_call xw (pe_gc c_is_whole hr (by decide) (fun z => nomatch z) (by rfl) (takes_of rfl rfl rfl rfl) (a_cons (q_ixV rfl (pe_ix ix_seq (pv 1) q_int (fun _ _ => rfl))) (a_cons q_int (a_cons (q_bin o_sub (pe_op op_sub (q_var (pv 0)) q_int)) a_nil)))))))))) ss_nil) (ss_cons (s_if (t_w (w_or (t_bin (o_notIn rfl) (pt_cmpR op_notIn_seq (q_ixV rfl (pe_ix ix_seq (pv 1) q_int (fun _ _ => rfl))) (q_gdata (by rfl) g_PAIR_KINDS) (by rfl))) (w_or1 (t_bin (o_ne rfl) (pt_cmpR (op_neU hr.units) (q_lenV rfl (pe_callB call_len (by rfl) m_len PySem.boot_len (pa_cons (pv 1) pa_nil))) q_int (nomark _)))))) (ss_one (s_ret q_bl)) ss_nil) (ss_one (s_ret (q_not (q_b n_all (pe_callB (cr_all rfl) (by rfl) m_all PyProof.Rows.boot_all (a_cons (q_lc (is := [2]) (js := [2]) (by decide) (pe_lc (own := [("part", 2)]) rfl scWrongRow.nd (i_seq rfl (q_sl rfl (q_var (pv 1)) (po_s q_int) po_n)) (blkOk_by (N := nWrongRow) (sc := defScope sWrongRow) (by decide +kernel)) (fun _ _ _ _ _ => (g_name (pg_name (i := 2) scWrongRow.nd rfl (by first | exact .inl rfl | exact .inr rfl)))) (fun _ _ _ _ _ => yes_le) (fun _ _ _ _ _ => (q_call (xw0 (xf := xf)) (pe_gc0 c_is_whole hr (by decide) (fun z => nomatch z) (by rfl) (a_cons (q_var (pv 2)) (a_cons q_int (a_cons (q_bin o_sub (pe_op op_sub (q_var (pv 0)) q_int)) a_nil)))))))) a_nil)))))))))), ?_⟩
  unfold PWrongRow at hp; split at hp
  rotate_left
  · exact hp.elim
  rename_i v d
  cases d with
  | tuple ds =>
    match ds, hp with
    | [], q => (conv => whnf); exact q
    | [a], q =>
      have e : rowOk v (.tuple [a]) = false := by
        cases a <;> first | rfl | (simp [rowOk, oneD, twoD])
      rw [e] at q
      cases a <;> (conv => whnf) <;> exact q
    | a :: b :: r, q =>
      cases a with
      | str k =>
        (conv => whnf)
        refine cnd_of (fun h1 => ?_) fun h1 => ?_
        · cases r with
          | cons c r =>
            have e : rowOk v (.tuple (.str k :: b :: c :: r)) = false := if_pos h1
            rw [e] at q
            exact q
          | nil =>
            have e : rowOk v (.tuple [.str k, b]) = fracD b := if_pos h1
            rw [e] at q
            exact q
        (conv => whnf)
        refine cnd_of (fun h2 => ?_) fun h2 => ?_
        · cases r with
          | cons c r =>
            have e : rowOk v (.tuple (.str k :: b :: c :: r)) = false := (if_neg (Bool.eq_false_iff.mp h1)).trans (if_pos h2)
            rw [e] at q
            exact q
          | nil =>
            have e : rowOk v (.tuple [.str k, b]) = wholeD b 0 (v - 1) := (if_neg (Bool.eq_false_iff.mp h1)).trans (if_pos h2)
            rw [e] at q
            exact q
        have e : rowOk v (.tuple (.str k :: b :: r)) = (kindD k && twoD (fun x => wholeD x 0 (v - 1)) (b :: r)) := (if_neg (Bool.eq_false_iff.mp h1)).trans (if_neg (Bool.eq_false_iff.mp h2))
        rw [e] at q
        (conv => whnf)
        refine ⟨⟨rfl, rfl⟩, ?_⟩
        (conv => whnf)
        refine cnd_of (fun h3 => ?_) fun h3 => ?_
        · have e : kindD k = false := not_t h3
          rw [e] at q
          exact q
        have e : kindD k = true := not_f h3
        rw [e, Bool.true_and] at q
        match r, q with
        | [], q => (conv => whnf); exact q
        | a :: c :: r, q => (conv => whnf); exact q
        | [c], q =>
          have e3 : twoD (fun x => wholeD x 0 (v - 1)) [b, c] = (wholeD b 0 (v - 1) && (wholeD c 0 (v - 1) && true)) := by rw [Bool.and_true]; rfl
          rw [e3] at q
          (conv => whnf)
          exact ⟨[wholeD b 0 (v - 1), wholeD c 0 (v - 1)], rfl, q⟩
      | _ => (conv => whnf); exact q
  | _ => exact hp
end
end K81

-- K81B
set_option autoImplicit false
namespace K81
open PySem PySem.Spec PyProof.Rows L2 DL TP
theorem rowOk_enc {v : Nat} {r : TP.Row} (h : r.Ok v) : rowOk (v : Nat) r.enc = true := by
  cases r with
  | num a b =>
    obtain ⟨⟨h1, h2⟩, ⟨h3, h4⟩, h5⟩ := h
    show (wholeD (.int a) (1 - 10 ^ 60) (10 ^ 60 - 1) && wholeD (.int b) 1 (10 ^ 60 - 1) && decide (((Nat.gcd a.natAbs b.natAbs : Nat) : Int) = 1)) = true
    rw [h5, show wholeD (.int a) (1 - 10 ^ 60) (10 ^ 60 - 1) = true by simp [wholeD]; omega, show wholeD (.int b) 1 (10 ^ 60 - 1) = true by simp [wholeD]; omega]
    rfl
  | op k us =>
    rcases h with ⟨rfl, u, hu, rfl⟩ | ⟨hk, u, w, hu, hw, rfl⟩
    · show wholeD (.int (u : Nat)) 0 ((v : Nat) - 1) = true
      exact wholeN (by omega)
    · have e1 : wholeD (.int (u : Nat)) 0 ((v : Nat) - 1) = true := wholeN (by omega)
      have e2 : wholeD (.int (w : Nat)) 0 ((v : Nat) - 1) = true := wholeN (by omega)
      rcases hk with rfl | rfl | rfl | rfl
      · show (kindD "add" && (wholeD (.int (u : Nat)) 0 ((v : Nat) - 1) && wholeD (.int (w : Nat)) 0 ((v : Nat) - 1))) = true
        rw [e1, e2]; decide
      · show (kindD "sub" && (wholeD (.int (u : Nat)) 0 ((v : Nat) - 1) && wholeD (.int (w : Nat)) 0 ((v : Nat) - 1))) = true
        rw [e1, e2]; decide
      · show (kindD "mul" && (wholeD (.int (u : Nat)) 0 ((v : Nat) - 1) && wholeD (.int (w : Nat)) 0 ((v : Nat) - 1))) = true
        rw [e1, e2]; decide
      · show (kindD "div" && (wholeD (.int (u : Nat)) 0 ((v : Nat) - 1) && wholeD (.int (w : Nat)) 0 ((v : Nat) - 1))) = true
        rw [e1, e2]; decide
/-- the tapes that are refused, and what is told of each -/
def badT : List (D × D) := [(.none, .none), (.tuple [.int 0, .tuple [], .tuple [.int 0]], .str "inputs"), (.tuple [.int 65, .tuple [], .tuple [.int 0]], .str "inputs"), (.tuple [.int 1, .list [], .tuple [.int 0]], .str "rows"),
  (.tuple [.int 1, .tuple [.tuple [.str "neg", .int 1]], .tuple [.int 0]], .tuple [.str "row", .int 0]), (.tuple [.int 1, .tuple [], .tuple []], .str "outs"), (.tuple [.int 1, .tuple [], .tuple [.int 1]], .tuple [.str "out", .int 0])]
theorem bad_of {d p : D} {G : Prop} (h : (d, p) ∈ badT) (h1 : d = .none → p = .none → G) (h2 : d = .tuple [.int 0, .tuple [], .tuple [.int 0]] → p = .str "inputs" → G) (h3 : d = .tuple [.int 65, .tuple [], .tuple [.int 0]] → p = .str "inputs" → G)
    (h4 : d = .tuple [.int 1, .list [], .tuple [.int 0]] → p = .str "rows" → G) (h5 : d = .tuple [.int 1, .tuple [.tuple [.str "neg", .int 1]], .tuple [.int 0]] → p = .tuple [.str "row", .int 0] → G)
    (h6 : d = .tuple [.int 1, .tuple [], .tuple []] → p = .str "outs" → G) (h7 : d = .tuple [.int 1, .tuple [], .tuple [.int 1]] → p = .tuple [.str "out", .int 0] → G) : G := by
  simp only [badT, List.mem_cons, Prod.mk.injEq, List.not_mem_nil, or_false] at h
  rcases h with ⟨a, b⟩ | ⟨a, b⟩ | ⟨a, b⟩ | ⟨a, b⟩ | ⟨a, b⟩ | ⟨a, b⟩ | ⟨a, b⟩
  · exact h1 a b
  · exact h2 a b
  · exact h3 a b
  · exact h4 a b
  · exact h5 a b
  · exact h6 a b
  · exact h7 a b
section
variable {P : Program} {w : World} {K : PySem.W.Frag} {mg : Str → Option Value} {base : Heap} {xf : XT} {xa : Str → Addr}
abbrev sWrongTape : Stmt := topS 22
abbrev nWrongTape : List Str := ["thing", "inputs", "rows", "outs", "number", "row", "out"]
theorem scWrongTape : FnScope nWrongTape ["thing"] (defScope sWrongTape) := ⟨rfl, rfl, rfl, by decide +kernel, rfl, by decide +kernel, by decide +kernel⟩
def PWrongTape : PD := fun rs Qd _ => (∃ t : Tape, t.Ok ∧ rs = [.da t.enc] ∧ Qd (.list [])) ∨ (∃ d p, (d, p) ∈ badT ∧ rs = [.da d] ∧ Qd (.list [p]))
theorem c_wrong_tape (T : TxtF K mg "wrong_tape" sWrongTape ["thing"]) (B : Blt mg) (c_is_whole : CalG P w K mg base false 1 "is_whole" ["thing", "least", "most"] (spD K xf PIsWhole)) (c_wrong_row : CalG P w K mg base false 3 "wrong_row" ["values", "thing"] (spD K xf PWrongRow)) (g_MOST_INPUTS : GD K mg "MOST_INPUTS" CMOST_INPUTS) (g_MOST_ROWS : GD K mg "MOST_ROWS" CMOST_ROWS) (g_MOST_OUTS : GD K mg "MOST_OUTS" CMOST_OUTS) : CalG P w K mg base false 4 "wrong_tape" ["thing"] (spD K xf PWrongTape) := by
  have m_len := B.len
  have m_isinstance := B.isinstance
  have m_tuple := B.tuple
  have m_enumerate := B.enumerate
  refine T.okD (xf := xf) (k := 3) scWrongTape (fun rs Qd Ed hp => ?_) fun f cdv A outer s H Hd E rs Qd Ed hr hgd xw hp => ?_
  · rcases hp with ⟨t, _, rfl, _⟩ | ⟨d, p, _, rfl, _⟩ <;> rfl
  refine ⟨_, (ss_cons (s_if (t_w (w_or (t_not (t_val (q_isi rfl (fun _ _ _ _ h => k_tuple h) (pe_callB call_isi (by rfl) m_isinstance PyProof.Rows.boot_isinstance (pa_cons (q_var (pv 0)) (pa_cons (pe_bltn (by rfl) m_tuple PyProof.Rows.boot_tuple rfl) pa_nil)))))) (w_or1 (t_bin (o_ne rfl) (pt_cmpR (op_neU hr.units) (q_lenV rfl (pe_callB call_len (by rfl) m_len PySem.boot_len (pa_cons (pv 0) pa_nil))) q_int (nomark _)))))) (ss_one (s_ret (q_lst (a_cons q_non a_nil)))) ss_nil) (ss_cons (s_asg (ps_asg (q_var (pv 0)) (g_tup (n := 3) rfl rfl (g_cons (g_name (pg_name (i := 1) scWrongTape.nd rfl (by first | exact .inl rfl | exact .inr rfl))) (g_cons (g_name (pg_name (i := 2) scWrongTape.nd rfl (by first | exact .inl rfl | exact .inr rfl))) (g_cons (g_name (pg_name (i := 3) scWrongTape.nd rfl (by first | exact .inl rfl | exact .inr rfl))) g_nil)))))) (ss_cons (s_if (t_not (t_val (q_call xw (pe_gc c_is_whole hr (by decide) (fun z => nomatch z) (by rfl) (takes_of rfl rfl rfl rfl) (a_cons (q_var (pv 1)) (a_cons q_int (a_cons (q_gdata (by rfl) g_MOST_INPUTS) a_nil))))))) (ss_one (s_ret (q_lst (a_cons q_str a_nil)))) ss_nil) (ss_cons (s_if (t_w (w_or (t_not (t_val (q_isi rfl (fun _ _ _ _ h => k_tuple h) (pe_callB call_isi (by rfl) m_isinstance PyProof.Rows.boot_isinstance (pa_cons (q_var (pv 2)) (pa_cons (pe_bltn (by rfl) m_tuple PyProof.Rows.boot_tuple rfl) pa_nil)))))) (w_or1 (t_bin o_gt (pt_cmpR op_gt (q_lenV rfl (pe_callB call_len (by rfl) m_len PySem.boot_len (pa_cons (pv 2) pa_nil))) (q_gdata (by rfl) g_MOST_ROWS) (nomark _)))))) (ss_one (s_ret (q_lst (a_cons q_str a_nil)))) ss_nil) (ss_cons (s_for (ps_for (passes_of rfl) rfl (i_enum rfl (pi_enumA (by rfl) m_enumerate (a_cons (q_var (pv 2)) a_nil))) (g_tup (n := 2) rfl rfl (g_cons (g_name (pg_name (i := 4) scWrongTape.nd rfl (by first | exact .inl rfl | exact .inr rfl))) (g_cons (g_name (pg_name (i := 5) scWrongTape.nd rfl (by first | exact .inl rfl | exact .inr rfl))) g_nil))) (ss_one (s_if (t_val (q_call xw (pe_gc c_wrong_row hr (by decide) (fun z => nomatch z) (by rfl) (takes_of rfl rfl rfl rfl) (a_cons (q_bin (o_add rfl) (pe_op op_addU (q_var (pv 1)) (q_var (pv 4)))) (a_cons (q_var (pv 5)) a_nil))))) (ss_one (s_ret (q_lst (a_cons (q_tup (a_cons q_str (a_cons (q_var (pv 4)) a_nil))) a_nil)))) ss_nil)))) (ss_cons (s_if (t_w (w_or (t_not (t_val (q_isi rfl (fun _ _ _ _ h => k_tuple h) (pe_callB call_isi (by rfl) m_isinstance PyProof.Rows.boot_isinstance (pa_cons (q_var (pv 3)) (pa_cons (pe_bltn (by rfl) m_tuple PyProof.Rows.boot_tuple rfl) pa_nil)))))) (w_or1 (t_not (t_chain o_le o_le (pt_chain op_le op_le q_int (q_lenV rfl (pe_callB call_len (by rfl) m_len PySem.boot_len (pa_cons (pv 3) pa_nil))) (q_gdata (by rfl) g_MOST_OUTS))))))) (ss_one (s_ret (q_lst (a_cons q_str a_nil)))) ss_nil) (ss_cons (s_for (ps_for (passes_of rfl) rfl (i_enum rfl (pi_enumA (by rfl) m_enumerate (a_cons (q_var (pv 3)) a_nil))) (g_tup (n := 2) rfl rfl (g_cons (g_name (pg_name (i := 4) scWrongTape.nd rfl (by first | exact .inl rfl | exact .inr rfl))) (g_cons (g_name (pg_name (i := 6) scWrongTape.nd rfl (by first | exact .inl rfl | exact .inr rfl))) g_nil))) (ss_one (s_if (t_not (t_val (q_call xw (pe_gc c_is_whole hr (by decide) (fun z => nomatch z) (by rfl) (takes_of rfl rfl rfl rfl) (a_cons (q_var (pv 6)) (a_cons q_int (a_cons (q_bin o_sub (pe_op op_sub (q_bin (o_add rfl) (pe_op op_addU (q_var (pv 1)) (q_lenV rfl (pe_callB call_len (by rfl) m_len PySem.boot_len (pa_cons (pv 2) pa_nil))))) q_int)) a_nil))))))) (ss_one (s_ret (q_lst (a_cons (q_tup (a_cons q_str (a_cons (q_var (pv 4)) a_nil))) a_nil)))) ss_nil)))) (ss_one (s_ret (q_lst a_nil)))))))))), ?_⟩
  rcases hp with ⟨t, ok, rfl, q⟩ | ⟨d, p, hb, rfl, q⟩
  · have h1 : (!wholeD (.int (t.n : Nat)) 1 64) = false := by rw [wholeN ⟨by have := ok.n1; omega, by have := ok.n2; omega⟩]; rfl
    (conv => whnf)
    refine cnd_f h1 ?_
    (conv => whnf)
    refine cnd_f (decide_eq_false (by rw [List.length_map]; have := ok.rl; omega)) ?_
    (conv => whnf)
    refine forGo_enum (fun k rs ρ => RowsOk (t.n + k) rs ∧ ∃ a b c, ρ = [.da t.enc, .da (.int (t.n : Nat)), .da (.tuple (t.rows.map Row.enc)), .da (.tuple (t.outs.map natD)), a, b, c]) ?_ ?_ _ _ _ ⟨ok.rs, _, _, _, rfl⟩
    · rintro k r rs ρ W hW ⟨⟨h, hs⟩, a, b, c, rfl⟩
      have e := rowOk_enc h
      (conv => whnf)
      refine cnd_f (by rw [show ((t.n : Int) + (k : Int)) = ((t.n + k : Nat) : Int) by omega, e]; rfl) ?_
      exact hW _ ⟨hs, _, _, _, rfl⟩
    · rintro k ρ ⟨_, a, b, c, rfl⟩
      (conv => whnf)
      refine cnd_t (decide_eq_true (by rw [List.length_map]; have := ok.o1; omega)) ?_
      (conv => whnf)
      refine cnd_f (by rw [decide_eq_true (by rw [List.length_map]; have := ok.o2; omega)]; rfl) ?_
      (conv => whnf)
      refine forGo_enum (fun k os ρ => (∀ o ∈ os, o < t.n + t.rows.length) ∧ ∃ a b c, ρ = [.da t.enc, .da (.int (t.n : Nat)), .da (.tuple (t.rows.map Row.enc)), .da (.tuple (t.outs.map natD)), a, b, c]) ?_ ?_ _ _ _ ⟨ok.os, _, _, _, rfl⟩
      · rintro k o os ρ W hW ⟨h, a, b, c, rfl⟩
        (conv => whnf)
        refine cnd_f (by show (!wholeD (.int (o : Nat)) 0 _) = false; rw [wholeN (by rw [List.length_map]; have := h o (by simp); omega)]; rfl) ?_
        exact hW _ ⟨fun x hx => h x (by simp [hx]), _, _, _, rfl⟩
      · rintro k ρ ⟨_, a, b, c, rfl⟩
        exact q
  · refine bad_of hb ?_ ?_ ?_ ?_ ?_ ?_ ?_ <;> rintro rfl rfl
    · exact q
    · exact q
    · exact q
    · exact q
    · exact q
    · exact q
    · exact q
abbrev sNeedTape : Stmt := topS 23
abbrev nNeedTape : List Str := ["tape", "wrong"]
theorem scNeedTape : FnScope nNeedTape ["tape"] (defScope sNeedTape) := ⟨rfl, rfl, rfl, by decide +kernel, rfl, by decide +kernel, by decide +kernel⟩
def PNeedTape (xa : Str → Addr) : PD := fun rs Qd Ed => (∃ t : Tape, t.Ok ∧ rs = [.da t.enc] ∧ Qd .none) ∨ (∃ d p, (d, p) ∈ badT ∧ rs = [.da d] ∧ Ed (xa "BadTape") p)
theorem c_need_tape (T : TxtF K mg "need_tape" sNeedTape ["tape"]) (B : Blt mg) (c_wrong_tape : CalG P w K mg base false 4 "wrong_tape" ["thing"] (spD K xf PWrongTape)) (x_BadTape : XC P w K mg base xf "BadTape" (xa "BadTape") "place") : CalG P w K mg base false 5 "need_tape" ["tape"] (spD K xf (PNeedTape xa)) := by
  refine T.okD (xf := xf) (k := 4) scNeedTape (fun rs Qd Ed hp => ?_) fun f cdv A outer s H Hd E rs Qd Ed hr hgd xw hp => ?_
  · rcases hp with ⟨t, _, rfl, _⟩ | ⟨d, p, _, rfl, _⟩ <;> rfl
  refine ⟨_, (ss_cons (s_set (ps_set (i := 1) scNeedTape.nd rfl (by first | exact .inl rfl | exact .inr rfl) (q_call xw (pe_gc c_wrong_tape hr (by decide) (fun z => nomatch z) (by rfl) (takes_of rfl rfl rfl rfl) (a_cons (q_var (pv 0)) a_nil))))) (ss_one (s_if (t_bin (o_ne rfl) (pt_cmpR (op_neU hr.units) (q_var (pv 1)) (q_lst a_nil) (nomark _))) (ss_one (s_raise xw x_BadTape.xf rfl (takes_of rfl rfl rfl rfl) (pmk_c x_BadTape (hr.mono (by decide)) (by rfl) (q_ixV rfl (pe_ix ix_seq (pv 1) q_int (fun _ _ => rfl)))))) ss_nil))), ?_⟩
  rcases hp with ⟨t, ok, rfl, q⟩ | ⟨d, p, hb, rfl, q⟩
  · (conv => whnf)
    refine .inl ⟨t, ok, rfl, ?_⟩
    (conv => whnf)
    exact ⟨rfl, rfl, q⟩
  · (conv => whnf)
    refine .inr ⟨d, p, hb, rfl, ?_⟩
    have hs : SeqAt.shaped (.list [p]) = true := by refine bad_of hb ?_ ?_ ?_ ?_ ?_ ?_ ?_ <;> rintro rfl rfl <;> decide +kernel
    (conv => whnf)
    refine ⟨hs, rfl, ?_⟩
    exact q
abbrev sOwnUses : Stmt := topS 24
abbrev nOwnUses : List Str := ["row"]
theorem scOwnUses : FnScope nOwnUses ["row"] (defScope sOwnUses) := ⟨rfl, rfl, rfl, by decide +kernel, rfl, by decide +kernel, by decide +kernel⟩
def POwnUses : PD := fun rs Qd _ => ∃ r : TP.Row, ∃ v, r.Ok v ∧ rs = [.da r.enc] ∧ Qd (.tuple (r.uses.map natD))
theorem c_own_uses (T : TxtF K mg "own_uses" sOwnUses ["row"]) (B : Blt mg) : CalG P w K mg base false 1 "own_uses" ["row"] (spD K xf POwnUses) := by
  refine T.okD (xf := xf) (k := 0) scOwnUses (fun rs Qd Ed hp => ?_) fun f cdv A outer s H Hd E rs Qd Ed hr hgd xw hp => ?_
  · obtain ⟨r, v, _, rfl, _⟩ := hp; rfl
  refine ⟨_, (ss_one (s_ret (q_if (t_bin (o_eq rfl) (pt_cmpR (op_eqU hr.units) (q_ixV rfl (pe_ix ix_seq (pv 0) q_int (fun _ _ => rfl))) q_str (nomark _))) (q_tup a_nil) (q_sl rfl (q_var (pv 0)) (po_s q_int) po_n)))), ?_⟩
  obtain ⟨r, v, ok, rfl, q⟩ := hp
  cases r with
  | num a b => exact q
  | op k us =>
    rcases ok with ⟨rfl, u, hu, rfl⟩ | ⟨hk, u, w, hu, hw, rfl⟩
    · exact q
    · rcases hk with rfl | rfl | rfl | rfl <;> exact q
end
end K81

-- K81C
set_option autoImplicit false
namespace K81
open PySem PySem.Spec PyProof.Rows L2 DL TP
section
variable {P : Program} {w : World} {K : PySem.W.Frag} {mg : Str → Option Value} {base : Heap} {xf : XT} {xa : Str → Addr}
abbrev sOwnLives : Stmt := topS 26
abbrev nOwnLives : List Str := ["tape", "inputs", "rows", "outs", "found", "number", "row", "part", "out"]
theorem scOwnLives : FnScope nOwnLives ["tape"] (defScope sOwnLives) := ⟨rfl, rfl, rfl, by decide +kernel, rfl, by decide +kernel, by decide +kernel⟩
def POwnLives : PD := fun rs Qd _ => ∃ t : Tape, t.Ok ∧ rs = [.da t.enc] ∧ Qd (.list ((encL 0 t.lasts).map .list))
theorem c_own_lives (T : TxtF K mg "own_lives" sOwnLives ["tape"]) (B : Blt mg) (c_own_uses : CalG P w K mg base false 1 "own_uses" ["row"] (spD K xf POwnUses)) : CalG P w K mg base false 2 "own_lives" ["tape"] (spD K xf POwnLives) := by
  have m_range := B.range
  have m_len := B.len
  have m_enumerate := B.enumerate
  have m_max := B.max
  refine T.okD (xf := xf) (k := 1) scOwnLives (fun rs Qd Ed hp => ?_) fun f cdv A outer s H Hd E rs Qd Ed hr hgd xw hp => ?_
  · obtain ⟨t, _, rfl, _⟩ := hp; rfl
  refine ⟨_, (ss_cons (s_asg (ps_asg (q_var (pv 0)) (g_tup (n := 3) rfl rfl (g_cons (g_name (pg_name (i := 1) scOwnLives.nd rfl (by first | exact .inl rfl | exact .inr rfl))) (g_cons (g_name (pg_name (i := 2) scOwnLives.nd rfl (by first | exact .inl rfl | exact .inr rfl))) (g_cons (g_name (pg_name (i := 3) scOwnLives.nd rfl (by first | exact .inl rfl | exact .inr rfl))) g_nil)))))) (ss_cons (s_setLcL (is := [5]) (js := [5]) (by decide) (ps_setLc (i := 4) (own := [("number", 5)]) rfl scOwnLives.nd rfl rfl (sw_true rfl rfl rfl (by decide +kernel)) (i_rng1 (pi_range1 rfl m_range (a_cons (q_lenV rfl (pe_callB call_len (by rfl) m_len PySem.boot_len (pa_cons (pv 2) pa_nil))) a_nil))) (blkOk_by (N := nOwnLives) (sc := defScope sOwnLives) (by decide +kernel)) (fun _ _ _ _ _ => (g_name (pg_name (i := 5) scOwnLives.nd rfl (by first | exact .inl rfl | exact .inr rfl)))) (fun _ _ _ _ _ => yes_le) (fun _ _ _ _ _ => (q_lst (a_cons (q_bin (o_add rfl) (pe_op op_addU (q_var (pv 5)) q_int)) (a_cons (q_bin (o_add rfl) (pe_op op_addU (q_var (pv 5)) q_int)) a_nil)))))) (ss_cons (s_for (ps_for (passes_of rfl) rfl (i_enum rfl (pi_enumA (by rfl) m_enumerate (a_cons (q_var (pv 2)) a_nil))) (g_tup (n := 2) rfl rfl (g_cons (g_name (pg_name (i := 5) scOwnLives.nd rfl (by first | exact .inl rfl | exact .inr rfl))) (g_cons (g_name (pg_name (i := 6) scOwnLives.nd rfl (by first | exact .inl rfl | exact .inr rfl))) g_nil))) (ss_one (s_for (ps_for (passes_of rfl) rfl (i_seq rfl (q_call xw (pe_gc c_own_uses hr (by decide) (fun z => nomatch z) (by rfl) (takes_of rfl rfl rfl rfl) (a_cons (q_var (pv 6)) a_nil)))) (g_name (pg_name (i := 7) scOwnLives.nd rfl (by first | exact .inl rfl | exact .inr rfl))) (ss_one (s_if (t_bin o_ge (pt_cmpR op_ge (q_var (pv 7)) (q_var (pv 1)) (nomark _))) (ss_one (s_setVV (fun _ _ _ h => h) (ps_asg (q_b n_max2 (pe_callB (call_max2 rfl) (by rfl) m_max PyProof.Rows.boot_max (a_cons (q_ixVV (fun _ _ _ h => h) (pe_ix ix_seq (pe_ix ix_seq (pv 4) (q_bin o_sub (pe_op op_sub (q_var (pv 7)) (q_var (pv 1)))) (fun _ _ => rfl)) pe_int (fun _ _ => rfl))) (a_cons (q_var (pv 5)) a_nil)))) (pg_sub (pe_ix ix_seq (pv 4) (q_bin o_sub (pe_op op_sub (q_var (pv 7)) (q_var (pv 1)))) (fun _ _ => rfl)) pe_int set_list)))) ss_nil))))))) (ss_cons (s_for (ps_for (passes_of rfl) rfl (i_seq rfl (q_var (pv 3))) (g_name (pg_name (i := 8) scOwnLives.nd rfl (by first | exact .inl rfl | exact .inr rfl))) (ss_one (s_if (t_bin o_ge (pt_cmpR op_ge (q_var (pv 8)) (q_var (pv 1)) (nomark _))) (ss_one (s_setVV (fun _ _ _ h => h) (ps_asg (q_lenV rfl (pe_callB call_len (by rfl) m_len PySem.boot_len (pa_cons (pv 2) pa_nil))) (pg_sub (pe_ix ix_seq (pv 4) (q_bin o_sub (pe_op op_sub (q_var (pv 8)) (q_var (pv 1)))) (fun _ _ => rfl)) pe_int set_list)))) ss_nil)))) (ss_one (s_ret (q_var (pv 4)))))))), ?_⟩
  obtain ⟨t, ok, rfl, q⟩ := hp
  have h64 : t.rows.length ≤ 400 := ok.rl
  (conv => whnf)
  refine cnd_t (ble_t (by simp only [Int.natAbs_natCast, List.length_map]; omega)) ?_
  (conv => whnf)
  refine cnd_t (szle (by rw [rgS_len, List.length_map]; omega)) ?_
  (conv => whnf)
  refine lcLGo_rng (fun j => [.int (0 + (j : Nat) + 1), .int (0 + (j : Nat) + 1)]) (fun j hj acc W hW => ?_) ?_
  · exact hW
  rw [encL_start, Int.toNat_natCast, List.length_map]
  (conv => whnf)
  refine forGo_enum (fun k rs ρ => ∃ ls a b c e, ρ = [.da t.enc, .da (.int (t.n : Nat)), .da (.tuple (t.rows.map Row.enc)), .da (.tuple (t.outs.map natD)), .ow (.ll (encL 0 ls)), a, b, c, e] ∧
    useRows t.n k rs ls = t.lasts1 ∧ ls.length = t.rows.length ∧ RowsOk (t.n + k) rs ∧ k + rs.length = t.rows.length) ?_ ?_ _ _ _ ⟨_, _, _, _, _, rfl, rfl, lasts0_length, ok.rs, Nat.zero_add _⟩
  · rintro k r rs ρ W hW ⟨ls, a, b, c, e, rfl, h1, h2, ⟨h3, h4⟩, h5⟩
    (conv => whnf)
    refine ⟨r, _, h3, rfl, ?_⟩
    (conv => whnf)
    rw [List.map_map]
    refine forGo_ind (fun us ρ => ∃ ls c, ρ = [.da t.enc, .da (.int (t.n : Nat)), .da (.tuple (t.rows.map Row.enc)), .da (.tuple (t.outs.map natD)), .ow (.ll (encL 0 ls)), .da (.int (k : Nat)), .da r.enc, c, e] ∧
      useRows t.n (k + 1) rs (us.foldl (useAt t.n k) ls) = t.lasts1 ∧ ls.length = t.rows.length ∧ ∀ u ∈ us, u < t.n + k) ?_ ?_ _ _ ⟨ls, _, rfl, h1, h2, h3.uses⟩
    · rintro u us ρ W hW ⟨ls, c, rfl, h1, h2, h6⟩
      have hu := h6 u (by simp)
      (conv => whnf)
      refine cnd_of (fun g => ?_) fun g => ?_
      · have g := of_decide_eq_true g
        have hl : u - t.n < ls.length := by simp only [List.length_cons] at h5; omega
        have hg : (encL 0 ls)[u - t.n]? = some [natD (0 + (u - t.n) + 1), natD (ls.getD (u - t.n) 0)] := by
          rw [encL_get, List.getD_eq_getElem?_getD, List.getElem?_eq_getElem hl]; rfl
        (conv => whnf)
        refine someQ_of (atD_nat (by omega : (u : Int) - (t.n : Int) = ((u - t.n : Nat) : Int)) hg) ?_
        (conv => whnf)
        refine someQ_of (ixN_nat (by omega : (u : Int) - (t.n : Int) = ((u - t.n : Nat) : Int)) (by rw [encL_length]; exact hl)) ?_
        (conv => whnf)
        refine someQ_of hg ?_
        have z : (encL 0 ls).set (u - t.n) [natD (0 + (u - t.n) + 1), .int (if (k : Int) > (ls.getD (u - t.n) 0 : Nat) then (k : Int) else (ls.getD (u - t.n) 0 : Nat))] = encL 0 (useAt t.n k ls u) := by
          rw [max_nat, useAt, if_pos (by omega)]; exact encL_set ls 0 _ _
        exact hW _ ⟨useAt t.n k ls u, _, by rw [← z]; rfl, h1, by rw [useAt_length]; exact h2, fun x hx => h6 x (by simp [hx])⟩
      · have g := of_decide_eq_false g
        refine hW _ ⟨ls, _, rfl, ?_, h2, fun x hx => h6 x (by simp [hx])⟩
        rw [List.foldl_cons, useAt, if_neg (by omega)] at h1
        exact h1
    · rintro ρ ⟨ls, c, rfl, h1, h2, -⟩
      exact hW _ ⟨ls, _, _, _, _, rfl, h1, h2, h4, by rw [List.length_cons] at h5; omega⟩
  · rintro k ρ ⟨ls, a, b, c, e, rfl, h1, h2, -, -⟩
    rw [show ls = t.lasts1 from h1]
    (conv => whnf)
    rw [List.map_map]
    refine forGo_ind (fun os ρ => ∃ ls a b c e, ρ = [.da t.enc, .da (.int (t.n : Nat)), .da (.tuple (t.rows.map Row.enc)), .da (.tuple (t.outs.map natD)), .ow (.ll (encL 0 ls)), a, b, c, e] ∧
      os.foldl (outAt t.n t.rows.length) ls = t.lasts ∧ ls.length = t.rows.length ∧ ∀ u ∈ os, u < t.n + t.rows.length) ?_ ?_ _ _ ⟨_, _, _, _, _, rfl, rfl, lasts1_length, ok.os⟩
    · rintro u us ρ W hW ⟨ls, a, b, c, e, rfl, h1, h2, h6⟩
      have hu := h6 u (by simp)
      (conv => whnf)
      refine cnd_of (fun g => ?_) fun g => ?_
      · have g := of_decide_eq_true g
        have hl : u - t.n < ls.length := by omega
        have hg : (encL 0 ls)[u - t.n]? = some [natD (0 + (u - t.n) + 1), natD (ls.getD (u - t.n) 0)] := by
          rw [encL_get, List.getD_eq_getElem?_getD, List.getElem?_eq_getElem hl]; rfl
        (conv => whnf)
        refine someQ_of (ixN_nat (by omega : (u : Int) - (t.n : Int) = ((u - t.n : Nat) : Int)) (by rw [encL_length]; exact hl)) ?_
        (conv => whnf)
        refine someQ_of hg ?_
        (conv => whnf)
        have z : (encL 0 ls).set (u - t.n) [natD (0 + (u - t.n) + 1), .int ((t.rows.map Row.enc).length : Nat)] = encL 0 (outAt t.n t.rows.length ls u) := by
          rw [List.length_map, outAt, if_pos (by omega)]; exact encL_set ls 0 _ _
        exact hW _ ⟨outAt t.n t.rows.length ls u, _, _, _, _, by rw [← z]; rfl, h1, by rw [outAt_length]; exact h2, fun x hx => h6 x (by simp [hx])⟩
      · have g := of_decide_eq_false g
        refine hW _ ⟨ls, _, _, _, _, rfl, ?_, h2, fun x hx => h6 x (by simp [hx])⟩
        rw [List.foldl_cons, outAt, if_neg (by omega)] at h1
        exact h1
    · rintro ρ ⟨ls, a, b, c, e, rfl, h1, h2, -⟩
      rw [show ls = t.lasts from h1]
      exact q
abbrev sOwnLoads : Stmt := topS 27
abbrev nOwnLoads : List Str := ["tape", "found", "first", "last", "moment"]
theorem scOwnLoads : FnScope nOwnLoads ["tape"] (defScope sOwnLoads) := ⟨rfl, rfl, rfl, by decide +kernel, rfl, by decide +kernel, by decide +kernel⟩
def POwnLoads : PD := fun rs Qd _ => ∃ t : Tape, t.Ok ∧ rs = [.da t.enc] ∧ Qd (.list (t.loads.map natD))
theorem c_own_loads (T : TxtF K mg "own_loads" sOwnLoads ["tape"]) (B : Blt mg) (c_own_lives : CalG P w K mg base false 2 "own_lives" ["tape"] (spD K xf POwnLives)) : CalG P w K mg base false 3 "own_loads" ["tape"] (spD K xf POwnLoads) := by
  have m_len := B.len
  have m_range := B.range
  refine T.okD (xf := xf) (k := 2) scOwnLoads (fun rs Qd Ed hp => ?_) fun f cdv A outer s H Hd E rs Qd Ed hr hgd xw hp => ?_
  · obtain ⟨t, _, rfl, _⟩ := hp; rfl
  refine ⟨_, (ss_cons (s_set (ps_set (i := 1) scOwnLoads.nd rfl (by first | exact .inl rfl | exact .inr rfl) (q_bin (o_mul rfl) (pe_op op_mulU (q_lst (a_cons q_int a_nil)) (q_bin (o_add rfl) (pe_op op_addU (q_b (n_len rfl) (pe_callB call_len (by rfl) m_len PySem.boot_len (a_cons (q_ixV rfl (pe_ix ix_seq (pv 0) q_int (fun _ _ => rfl))) a_nil))) q_int)))))) (ss_cons (s_for (ps_for (passes_of rfl) rfl (i_seq rfl (q_call xw (pe_gc c_own_lives hr (by decide) (fun z => nomatch z) (by rfl) (takes_of rfl rfl rfl rfl) (a_cons (q_var (pv 0)) a_nil)))) (g_tup (n := 2) rfl rfl (g_cons (g_name (pg_name (i := 2) scOwnLoads.nd rfl (by first | exact .inl rfl | exact .inr rfl))) (g_cons (g_name (pg_name (i := 3) scOwnLoads.nd rfl (by first | exact .inl rfl | exact .inr rfl))) g_nil))) (ss_one (s_for (ps_for (passes_of rfl) rfl (i_rng2 (pi_range2 rfl m_range (a_cons (q_var (pv 2)) (a_cons (q_bin (o_add rfl) (pe_op op_addU (q_var (pv 3)) q_int)) a_nil)))) (g_name (pg_name (i := 4) scOwnLoads.nd rfl (by first | exact .inl rfl | exact .inr rfl))) (ss_one (s_augV (fun _ _ _ _ _ _ h1 h2 h3 => ⟨_, _, _, _, rfl, rfl, h1, h2, h3⟩) (ps_augS (pv 1) (q_var (pv 4)) get_lst q_int ip_add set_list)))))))) (ss_one (s_ret (q_var (pv 1)))))), ?_⟩
  obtain ⟨t, ok, rfl, q⟩ := hp
  have h64 : t.rows.length ≤ 400 := ok.rl
  have em : ((t.rows.map Row.enc).length : Int) + 1 = ((t.rows.length + 1 : Nat) : Int) := by rw [List.length_map]; rfl
  (conv => whnf)
  refine ⟨by simp only [List.length_cons, List.length_nil, List.length_map, sizeLine]; omega, by omega, by omega, ?_⟩
  (conv => whnf)
  refine ⟨t, ok, rfl, ?_⟩
  (conv => whnf)
  rw [encL_pairs, List.map_map, List.map_map]
  have e0 : (List.replicate (((t.rows.map Row.enc).length : Int) + 1).toNat [(.int 0 : D)]).flatten = tab (t.rows.length + 1) (loadN []) := by
    rw [em, Int.toNat_natCast, flat_rep]; rfl
  have ez : tab (t.rows.length + 1) (loadN t.lives) = t.loads.map natD := by unfold tab Tape.loads; rw [List.map_map]; rfl
  rw [← ez] at q
  refine forGo_ind (fun rest ρ => ∃ done a b c, ρ = [.da t.enc, .ow (.l (tab (t.rows.length + 1) (loadN done))), a, b, c] ∧ t.lives = done ++ rest) ?_ ?_ _ _ ⟨[], _, _, _, by rw [← e0]; rfl, rfl⟩
  · rintro p rest ρ W hW ⟨done, a, b, c, rfl, h1⟩
    obtain ⟨b1, b2, b3⟩ := lives_ok p (by rw [h1]; simp)
    (conv => whnf)
    refine cnd_t (ble_t (by simp only [Int.natAbs_natCast]; omega)) ?_
    (conv => whnf)
    refine cnd_t (ble_t (by omega)) ?_
    (conv => whnf)
    refine forGo_rng (fun k ρ => ∃ c, ρ = [.da t.enc, .ow (.l (tab (t.rows.length + 1) fun mo => loadN done mo + if p.1 ≤ mo ∧ mo < p.1 + k then 1 else 0)), .da (natD p.1), .da (natD p.2), c]) ?_ ?_ ⟨c, ?_⟩
    · rintro k ρ W hk hW ⟨c, rfl⟩
      have hk2 : p.1 + k ≤ p.2 := by omega
      have hi : p.1 + k < t.rows.length + 1 := by omega
      have ei : ((p.1 : Int) + (k : Int)) = ((p.1 + k : Nat) : Int) := by omega
      (conv => whnf)
      refine someQ_of (ixN_nat ei (by rw [tab_length]; exact hi)) ?_
      (conv => whnf)
      refine someQ_of (tab_get hi) ?_
      (conv => whnf)
      refine cnd_t (Nat.beq_refl _) ?_
      have z : (tab (t.rows.length + 1) fun mo => loadN done mo + if p.1 ≤ mo ∧ mo < p.1 + k then 1 else 0).set (p.1 + k) (natD ((loadN done (p.1 + k) + if p.1 ≤ p.1 + k ∧ p.1 + k < p.1 + k then 1 else 0) + 1)) = tab (t.rows.length + 1) fun mo => loadN done mo + if p.1 ≤ mo ∧ mo < p.1 + (k + 1) then 1 else 0 := by
        rw [tab_set]
        refine tab_congr fun j => ?_
        by_cases c1 : j = p.1 + k
        · subst c1
          rw [if_pos rfl, if_neg (by omega), if_pos (by omega)]
        · rw [if_neg c1]
          congr 1
          by_cases c2 : p.1 ≤ j ∧ j < p.1 + k
          · rw [if_pos c2, if_pos (by omega)]
          · rw [if_neg c2, if_neg (by omega)]
      exact hW _ ⟨_, by rw [← z]; rfl⟩
    · rintro ρ ⟨c, rfl⟩
      refine hW _ ⟨done ++ [p], .da (natD p.1), .da (natD p.2), c, ?_, by rw [h1]; simp⟩
      rw [show tab (t.rows.length + 1) (loadN (done ++ [p])) = tab (t.rows.length + 1) fun mo => loadN done mo + if p.1 ≤ mo ∧ mo < p.1 + ((p.2 : Int) + 1 - (p.1 : Int)).toNat then 1 else 0 from tab_congr fun j => by
        rw [loadN_snoc, show p.1 + ((p.2 : Int) + 1 - (p.1 : Int)).toNat = p.2 + 1 by omega]]
    · rw [show (tab (t.rows.length + 1) fun mo => loadN done mo + if p.1 ≤ mo ∧ mo < p.1 + 0 then 1 else 0) = tab (t.rows.length + 1) (loadN done) from tab_congr fun j => by rw [if_neg (by omega)]; rfl]
      rfl
  · rintro ρ ⟨done, a, b, c, rfl, h1⟩
    rw [List.append_nil] at h1
    rw [h1] at q
    exact q
end
end K81

-- K81D
set_option autoImplicit false
namespace K81
open PySem PySem.Spec PyProof.Rows L2 DL TP
section
variable {P : Program} {w : World} {K : PySem.W.Frag} {mg : Str → Option Value} {base : Heap} {xf : XT} {xa : Str → Addr}
abbrev sLoadsOf : Stmt := topS 29
abbrev nLoadsOf : List Str := ["tape"]
theorem scLoadsOf : FnScope nLoadsOf ["tape"] (defScope sLoadsOf) := ⟨rfl, rfl, rfl, by decide +kernel, rfl, by decide +kernel, by decide +kernel⟩
def PLoadsOf (xa : Str → Addr) : PD := fun rs Qd Ed => (∃ t : Tape, t.Ok ∧ rs = [.da t.enc] ∧ Qd (.tuple (t.loads.map natD))) ∨ (∃ d p, (d, p) ∈ badT ∧ rs = [.da d] ∧ Ed (xa "BadTape") p)
theorem c_loads_of (T : TxtF K mg "loads_of" sLoadsOf ["tape"]) (B : Blt mg) (c_need_tape : CalG P w K mg base false 5 "need_tape" ["tape"] (spD K xf (PNeedTape xa))) (c_own_loads : CalG P w K mg base false 3 "own_loads" ["tape"] (spD K xf POwnLoads)) : CalG P w K mg base false 6 "loads_of" ["tape"] (spD K xf (PLoadsOf xa)) := by
  have m_tuple := B.tuple
  refine T.okD (xf := xf) (k := 5) scLoadsOf (fun rs Qd Ed hp => ?_) fun f cdv A outer s H Hd E rs Qd Ed hr hgd xw hp => ?_
  · rcases hp with ⟨t, _, rfl, _⟩ | ⟨d, p, _, rfl, _⟩ <;> rfl
  refine ⟨_, (ss_cons (s_expr (q_call xw (pe_gc c_need_tape hr (by decide) (fun z => nomatch z) (by rfl) (takes_of rfl rfl rfl rfl) (a_cons (q_var (pv 0)) a_nil)))) (ss_one (s_ret (q_b (n_tuple rfl) (pe_callTy call_tuple_of (by rfl) m_tuple PyProof.Rows.boot_tuple (a_cons (q_call xw (pe_gc c_own_loads hr (by decide) (fun z => nomatch z) (by rfl) (takes_of rfl rfl rfl rfl) (a_cons (q_var (pv 0)) a_nil))) a_nil)))))), ?_⟩
  rcases hp with ⟨t, ok, rfl, q⟩ | ⟨d, p, hb, rfl, q⟩
  · (conv => whnf)
    refine .inl ⟨t, ok, rfl, ?_⟩
    (conv => whnf)
    refine ⟨t, ok, rfl, ?_⟩
    (conv => whnf)
    exact q
  · (conv => whnf)
    refine .inr ⟨d, p, hb, rfl, ?_⟩
    exact q
abbrev sPeakOf : Stmt := topS 30
abbrev nPeakOf : List Str := ["tape"]
theorem scPeakOf : FnScope nPeakOf ["tape"] (defScope sPeakOf) := ⟨rfl, rfl, rfl, by decide +kernel, rfl, by decide +kernel, by decide +kernel⟩
def PPeakOf (xa : Str → Addr) : PD := fun rs Qd Ed => (∃ t : Tape, t.Ok ∧ rs = [.da t.enc] ∧ Qd (natD t.peak)) ∨ (∃ d p, (d, p) ∈ badT ∧ rs = [.da d] ∧ Ed (xa "BadTape") p)
theorem c_peak_of (T : TxtF K mg "peak_of" sPeakOf ["tape"]) (B : Blt mg) (c_need_tape : CalG P w K mg base false 5 "need_tape" ["tape"] (spD K xf (PNeedTape xa))) (c_own_loads : CalG P w K mg base false 3 "own_loads" ["tape"] (spD K xf POwnLoads)) : CalG P w K mg base false 6 "peak_of" ["tape"] (spD K xf (PPeakOf xa)) := by
  have m_max := B.max
  refine T.okD (xf := xf) (k := 5) scPeakOf (fun rs Qd Ed hp => ?_) fun f cdv A outer s H Hd E rs Qd Ed hr hgd xw hp => ?_
  · rcases hp with ⟨t, _, rfl, _⟩ | ⟨d, p, _, rfl, _⟩ <;> rfl
  refine ⟨_, (ss_cons (s_expr (q_call xw (pe_gc c_need_tape hr (by decide) (fun z => nomatch z) (by rfl) (takes_of rfl rfl rfl rfl) (a_cons (q_var (pv 0)) a_nil)))) (ss_one (s_ret (q_b n_max (pe_callB (cr_max rfl) (by rfl) m_max PyProof.Rows.boot_max (a_cons (q_call xw (pe_gc c_own_loads hr (by decide) (fun z => nomatch z) (by rfl) (takes_of rfl rfl rfl rfl) (a_cons (q_var (pv 0)) a_nil))) a_nil)))))), ?_⟩
  rcases hp with ⟨t, ok, rfl, q⟩ | ⟨d, p, hb, rfl, q⟩
  · (conv => whnf)
    refine .inl ⟨t, ok, rfl, ?_⟩
    (conv => whnf)
    refine ⟨t, ok, rfl, ?_⟩
    (conv => whnf)
    refine ⟨_, natD_map _, by rw [List.length_map, loads_length]; omega, fun m h1 h2 => ?_⟩
    rw [max_is loads_ne h1 h2]
    exact q
  · (conv => whnf)
    refine .inr ⟨d, p, hb, rfl, ?_⟩
    exact q
abbrev sLivesOf : Stmt := topS 31
abbrev nLivesOf : List Str := ["tape", "first", "last"]
theorem scLivesOf : FnScope nLivesOf ["tape"] (defScope sLivesOf) := ⟨rfl, rfl, rfl, by decide +kernel, rfl, by decide +kernel, by decide +kernel⟩
def PLivesOf (xa : Str → Addr) : PD := fun rs Qd Ed => (∃ t : Tape, t.Ok ∧ rs = [.da t.enc] ∧ Qd (.tuple (t.lives.map fun p => .tuple (lifeL p)))) ∨ (∃ d p, (d, p) ∈ badT ∧ rs = [.da d] ∧ Ed (xa "BadTape") p)
theorem c_lives_of (T : TxtF K mg "lives_of" sLivesOf ["tape"]) (B : Blt mg) (c_need_tape : CalG P w K mg base false 5 "need_tape" ["tape"] (spD K xf (PNeedTape xa))) (c_own_lives : CalG P w K mg base false 2 "own_lives" ["tape"] (spD K xf POwnLives)) : CalG P w K mg base false 6 "lives_of" ["tape"] (spD K xf (PLivesOf xa)) := by
  have m_tuple := B.tuple
  refine T.okD (xf := xf) (k := 5) scLivesOf (fun rs Qd Ed hp => ?_) fun f cdv A outer s H Hd E rs Qd Ed hr hgd xw hp => ?_
  · rcases hp with ⟨t, _, rfl, _⟩ | ⟨d, p, _, rfl, _⟩ <;> rfl
  refine ⟨_, (ss_cons (s_expr (q_call xw (pe_gc c_need_tape hr (by decide) (fun z => nomatch z) (by rfl) (takes_of rfl rfl rfl rfl) (a_cons (q_var (pv 0)) a_nil)))) (ss_one (s_ret (q_b (n_tuple rfl) (pe_callTy call_tuple_of (by rfl) m_tuple PyProof.Rows.boot_tuple (a_cons (q_lc (is := [1, 2]) (js := [1, 2]) (by decide) (pe_lc (own := [("first", 1), ("last", 2)]) rfl scLivesOf.nd (i_seq rfl (q_call xw (pe_gc c_own_lives hr (by decide) (fun z => nomatch z) (by rfl) (takes_of rfl rfl rfl rfl) (a_cons (q_var (pv 0)) a_nil)))) (blkOk_by (N := nLivesOf) (sc := defScope sLivesOf) (by decide +kernel)) (fun _ _ _ _ _ => (g_tup (n := 2) rfl rfl (g_cons (g_name (pg_name (i := 1) scLivesOf.nd rfl (by first | exact .inl rfl | exact .inr rfl))) (g_cons (g_name (pg_name (i := 2) scLivesOf.nd rfl (by first | exact .inl rfl | exact .inr rfl))) g_nil)))) (fun _ _ _ _ _ => yes_le) (fun _ _ _ _ _ => (q_tup (a_cons (q_var (pv 1)) (a_cons (q_var (pv 2)) a_nil)))))) a_nil)))))), ?_⟩
  rcases hp with ⟨t, ok, rfl, q⟩ | ⟨d, p, hb, rfl, q⟩
  · have h64 : t.rows.length ≤ 400 := ok.rl
    (conv => whnf)
    refine .inl ⟨t, ok, rfl, ?_⟩
    (conv => whnf)
    refine ⟨t, ok, rfl, ?_⟩
    rw [encL_pairs, List.map_map]
    (conv => whnf)
    rw [List.map_map]
    refine cnd_t (szle (by rw [List.length_map, pairs_length, lasts_length]; omega)) ?_
    refine lcGo_map (fun p => some (.tuple (lifeL p))) _ _ (fun p hp acc W hW => ?_) ?_
    · exact hW
    rw [List.nil_append, List.filterMap_eq_map']
    exact q
  · (conv => whnf)
    refine .inr ⟨d, p, hb, rfl, ?_⟩
    exact q
abbrev sLiveAt : Stmt := topS 28
abbrev nLiveAt : List Str := ["tape", "moment", "lives", "number", "first", "last"]
theorem scLiveAt : FnScope nLiveAt ["tape", "moment"] (defScope sLiveAt) := ⟨rfl, rfl, rfl, by decide +kernel, rfl, by decide +kernel, by decide +kernel⟩
def PLiveAt (xa : Str → Addr) : PD := fun rs Qd Ed => (∃ t : Tape, ∃ mo : Nat, t.Ok ∧ mo ≤ t.rows.length ∧ rs = [.da t.enc, .da (natD mo)] ∧ Qd (.tuple (t.liveAt mo))) ∨
  (∃ t : Tape, ∃ d, t.Ok ∧ wholeD d 0 t.rows.length = false ∧ rs = [.da t.enc, .da d] ∧ Ed (xa "BadNumber") d) ∨ (∃ d p d2, (d, p) ∈ badT ∧ rs = [.da d, .da d2] ∧ Ed (xa "BadTape") p)
theorem c_live_at (T : TxtF K mg "live_at" sLiveAt ["tape", "moment"]) (B : Blt mg) (c_need_tape : CalG P w K mg base false 5 "need_tape" ["tape"] (spD K xf (PNeedTape xa))) (c_is_whole : CalG P w K mg base false 1 "is_whole" ["thing", "least", "most"] (spD K xf PIsWhole)) (c_own_lives : CalG P w K mg base false 2 "own_lives" ["tape"] (spD K xf POwnLives)) (x_BadNumber : XC P w K mg base xf "BadNumber" (xa "BadNumber") "value") : CalG P w K mg base false 6 "live_at" ["tape", "moment"] (spD K xf (PLiveAt xa)) := by
  have m_len := B.len
  have m_tuple := B.tuple
  have m_enumerate := B.enumerate
  refine T.okD (xf := xf) (k := 5) scLiveAt (fun rs Qd Ed hp => ?_) fun f cdv A outer s H Hd E rs Qd Ed hr hgd xw hp => ?_
  · rcases hp with ⟨t, _, _, _, rfl, _⟩ | ⟨t, _, _, _, rfl, _⟩ | ⟨d, p, _, _, rfl, _⟩ <;> rfl
  refine ⟨_, (ss_cons (s_expr (q_call xw (pe_gc c_need_tape hr (by decide) (fun z => nomatch z) (by rfl) (takes_of rfl rfl rfl rfl) (a_cons (q_var (pv 0)) a_nil)))) (ss_cons (s_if (t_not (t_val (q_call xw (pe_gc c_is_whole hr (by decide) (fun z => nomatch z) (by rfl) (takes_of rfl rfl rfl rfl) (a_cons (q_var (pv 1)) (a_cons q_int (a_cons (q_b (n_len rfl) (pe_callB call_len (by rfl) m_len PySem.boot_len (a_cons (q_ixV rfl (pe_ix ix_seq (pv 0) q_int (fun _ _ => rfl))) a_nil))) a_nil))))))) (ss_one (s_raise xw x_BadNumber.xf rfl (takes_of rfl rfl rfl rfl) (pmk_c x_BadNumber (hr.mono (by decide)) (by rfl) (q_var (pv 1))))) ss_nil) (ss_cons (s_set (ps_set (i := 2) scLiveAt.nd rfl (by first | exact .inl rfl | exact .inr rfl) (q_call xw (pe_gc c_own_lives hr (by decide) (fun z => nomatch z) (by rfl) (takes_of rfl rfl rfl rfl) (a_cons (q_var (pv 0)) a_nil))))) (ss_one (s_ret (q_b (n_tuple rfl) (pe_callTy call_tuple_of (by rfl) m_tuple PyProof.Rows.boot_tuple (a_cons (q_lc (is := [3, 4, 5]) (js := [3, 4, 5]) (by decide) (pe_lc (own := [("number", 3), ("first", 4), ("last", 5)]) rfl scLiveAt.nd (i_enum rfl (pi_enumA (by rfl) m_enumerate (a_cons (q_var (pv 2)) a_nil))) (blkOk_by (N := nLiveAt) (sc := defScope sLiveAt) (by decide +kernel)) (fun _ _ _ _ _ => (g_tup (n := 2) rfl rfl (g_cons (g_name (pg_name (i := 3) scLiveAt.nd rfl (by first | exact .inl rfl | exact .inr rfl))) (g_cons (g_tup (n := 2) rfl rfl (g_cons (g_name (pg_name (i := 4) scLiveAt.nd rfl (by first | exact .inl rfl | exact .inr rfl))) (g_cons (g_name (pg_name (i := 5) scLiveAt.nd rfl (by first | exact .inl rfl | exact .inr rfl))) g_nil))) g_nil)))) (fun _ _ _ _ _ => pts_one (t_chain o_le o_le (pt_chain op_le op_le (q_var (pv 4)) (q_var (pv 1)) (q_var (pv 5))))) (fun _ _ _ _ _ => (q_bin (o_add rfl) (pe_op op_addU (q_ixV rfl (pe_ix ix_seq (pv 0) q_int (fun _ _ => rfl))) (q_var (pv 3))))))) a_nil)))))))), ?_⟩
  rcases hp with ⟨t, mo, ok, hm, rfl, q⟩ | ⟨t, d, ok, hd, rfl, q⟩ | ⟨d, p, d2, hb, rfl, q⟩
  · have h64 : t.rows.length ≤ 400 := ok.rl
    (conv => whnf)
    refine .inl ⟨t, ok, rfl, ?_⟩
    (conv => whnf)
    refine cnd_f (by rw [show wholeD (natD mo) 0 ((t.rows.map Row.enc).length : Nat) = true from wholeN (by rw [List.length_map]; omega)]; rfl) ?_
    (conv => whnf)
    refine ⟨t, ok, rfl, ?_⟩
    rw [encL_pairs, List.map_map]
    (conv => whnf)
    refine cnd_t (szle (by rw [enS_length, List.length_map, pairs_length, lasts_length]; omega)) ?_
    refine lcGo_enum (ρ := [_, _, _, _, _, _]) (liveF t.n mo) t.lives _ _ _ rfl (fun k p hp acc W hW => ?_) ?_
    · (conv => whnf)
      refine cnd_of (fun g => ?_) fun g => ?_
      · (conv => whnf)
        have g := of_decide_eq_true g
        refine cnd_of (fun g2 => ?_) fun g2 => ?_
        · have g2 := of_decide_eq_true g2
          rw [liveF, if_pos (by omega), natD_add] at hW
          exact hW
        · have g2 := of_decide_eq_false g2
          rw [liveF, if_neg (by omega)] at hW
          exact hW
      · have g := of_decide_eq_false g
        rw [liveF, if_neg (by omega)] at hW
        exact hW
    rw [List.nil_append]
    exact q
  · (conv => whnf)
    refine .inl ⟨t, ok, rfl, ?_⟩
    (conv => whnf)
    refine cnd_t (by rw [List.length_map, hd]; rfl) ?_
    exact q
  · (conv => whnf)
    refine .inr ⟨d, p, hb, rfl, ?_⟩
    exact q
end
end K81

-- TB
set_option autoImplicit true
namespace TP
open PySem PySem.Spec PyProof.Rows L2 DL
/-! ### boxes: the plain part -/
def ovl (p q : Nat × Nat) : Bool := decide (p.1 ≤ q.2) && decide (q.1 ≤ p.2)
/-- the first of m numbers from k on -/
def fnd (p : Nat → Bool) (k m : Nat) : Option Nat := ((List.range' k m).filter p).head?
theorem fnd_zero {p : Nat → Bool} {k : Nat} : fnd p k 0 = none := rfl
theorem fnd_succ {p : Nat → Bool} {k m : Nat} : fnd p k (m + 1) = if p k then some k else fnd p (k + 1) m := by
  unfold fnd
  rw [List.range'_succ, List.filter_cons]
  split <;> rfl
theorem fnd_some {p : Nat → Bool} : ∀ {m k x : Nat}, fnd p k m = some x → p x = true ∧ k ≤ x ∧ x < k + m ∧ ∀ y, k ≤ y → y < x → p y = false
  | 0, k, x, h => by cases h
  | m + 1, k, x, h => by
    rw [fnd_succ] at h
    split at h
    · rename_i c
      cases h
      exact ⟨c, by omega, by omega, fun y h1 h2 => by omega⟩
    · rename_i c
      obtain ⟨h1, h2, h3, h4⟩ := fnd_some h
      refine ⟨h1, by omega, by omega, fun y h5 h6 => ?_⟩
      by_cases e : y = k
      · subst e; exact Bool.eq_false_iff.mpr c
      · exact h4 y (by omega) h6
theorem fnd_none {p : Nat → Bool} : ∀ {m k : Nat}, fnd p k m = none → ∀ y, k ≤ y → y < k + m → p y = false
  | 0, k, h, y, h1, h2 => by omega
  | m + 1, k, h, y, h1, h2 => by
    rw [fnd_succ] at h
    split at h
    · cases h
    · rename_i c
      by_cases e : y = k
      · subst e; exact Bool.eq_false_iff.mpr c
      · exact fnd_none h y (by omega) (by omega)
theorem fnd_of_none {p : Nat → Bool} {m k : Nat} (h : ∀ y, k ≤ y → y < k + m → p y = false) : fnd p k m = none := by
  cases e : fnd p k m with
  | none => rfl
  | some x =>
    obtain ⟨h1, h2, h3, _⟩ := fnd_some e
    rw [h x h2 h3] at h1; cases h1
theorem fnd_congr {p q : Nat → Bool} {k m : Nat} (h : ∀ y, k ≤ y → y < k + m → p y = q y) : fnd p k m = fnd q k m := by
  unfold fnd
  congr 1
  apply List.filter_congr
  intro y hy
  rw [List.mem_range'_1] at hy
  exact h y hy.1 hy.2
/-- the least number that is not taken -/
def mex (ts : List Nat) : Nat := (fnd (fun b => !ts.contains b) 0 (ts.length + 1)).getD 0
theorem nodup_sub {α : Type} [BEq α] [LawfulBEq α] : ∀ {a b : List α}, a.Nodup → a ⊆ b → a.length ≤ b.length
  | [], _, _, _ => Nat.zero_le _
  | x :: a, b, ha, h => by
    have hx : x ∈ b := h (by simp)
    have hn := List.nodup_cons.mp ha
    have e := List.length_erase_of_mem hx
    have pos : 0 < b.length := List.length_pos_of_mem hx
    have := nodup_sub (a := a) (b := b.erase x) hn.2 fun y hy => by
      have ne : y ≠ x := fun z => hn.1 (z ▸ hy)
      exact (List.mem_erase_of_ne ne).mpr (h (List.mem_cons_of_mem _ hy))
    rw [List.length_cons]
    omega
theorem range_sub {ts : List Nat} : ∀ {n : Nat}, (∀ b, b < n → b ∈ ts) → n ≤ ts.length := by
  intro n h
  have a : (List.range n).Nodup := List.nodup_range
  have b : (List.range n) ⊆ ts := fun x hx => h x (List.mem_range.mp hx)
  have := nodup_sub a b
  simpa using this
theorem mex_spec (ts : List Nat) : mex ts ∉ ts ∧ ∀ b, b < mex ts → b ∈ ts := by
  unfold mex
  cases e : fnd (fun b => !ts.contains b) 0 (ts.length + 1) with
  | some x =>
    obtain ⟨h1, _, _, h4⟩ := fnd_some e
    constructor
    · simpa using h1
    · intro b hb
      have := h4 b (Nat.zero_le _) hb
      simpa using this
  | none =>
    have h := fnd_none e
    have := range_sub (ts := ts) (n := ts.length + 1) fun b hb => by
      have := h b (Nat.zero_le _) (by omega)
      simpa using this
    omega
theorem mex_uniq {ts : List Nat} {b : Nat} (h : b ∉ ts) (k : ∀ c, c < b → c ∈ ts) : b = mex ts := by
  obtain ⟨h1, h2⟩ := mex_spec ts
  rcases Nat.lt_trichotomy b (mex ts) with e | e | e
  · exact absurd (h2 b e) h
  · exact e
  · exact absurd (k _ e) h1
theorem mex_congr {ts us : List Nat} (h : ∀ b, b ∈ ts ↔ b ∈ us) : mex ts = mex us := by
  obtain ⟨h1, h2⟩ := mex_spec ts
  exact mex_uniq (fun z => h1 ((h _).mpr z)) fun c hc => (h c).mp (h2 c hc)
theorem mex_le (ts : List Nat) : mex ts ≤ ts.length := range_sub (mex_spec ts).2
/-- life l ends at the n-th's first moment or later -/
def lat (lv : List (Nat × Nat)) (n l : Nat) : Bool := decide ((lv.getD n (0, 0)).1 ≤ (lv.getD l (0, 0)).2)
def takenAt (lv : List (Nat × Nat)) (f : List Nat) (n : Nat) : List Nat := ((List.range n).filter (lat lv n)).map (f.getD · 0)
def grd (lv : List (Nat × Nat)) : Nat → List Nat
  | 0 => []
  | n + 1 => grd lv n ++ [mex (takenAt lv (grd lv n) n)]
theorem grd_length {lv : List (Nat × Nat)} : ∀ {n : Nat}, (grd lv n).length = n
  | 0 => rfl
  | n + 1 => by simp [grd, grd_length]
theorem grd_get {lv : List (Nat × Nat)} : ∀ {n i : Nat}, i < n → (grd lv n).getD i 0 = mex (takenAt lv (grd lv i) i)
  | n + 1, i, h => by
    show (grd lv n ++ [mex (takenAt lv (grd lv n) n)]).getD i 0 = _
    by_cases e : i = n
    · subst e
      rw [List.getD_eq_getElem?_getD, List.getElem?_append_right (by rw [grd_length]; omega), grd_length]
      simp
    · rw [List.getD_eq_getElem?_getD, List.getElem?_append_left (by rw [grd_length]; omega), ← List.getD_eq_getElem?_getD]
      exact grd_get (by omega)
theorem grd_pre {lv : List (Nat × Nat)} {n i l : Nat} (h : l < i) (k : i ≤ n) : (grd lv i).getD l 0 = (grd lv n).getD l 0 := by rw [grd_get h, grd_get (by omega)]
theorem grd_lt {lv : List (Nat × Nat)} {n i : Nat} (h : i < n) : (grd lv n).getD i 0 ≤ i := by
  rw [grd_get h]
  refine Nat.le_trans (mex_le _) ?_
  unfold takenAt
  rw [List.length_map]
  exact Nat.le_trans (List.length_filter_le _ _) (by simp)
/-- the first boxes -/
def Tape.boxes (t : Tape) : List Nat := grd t.lives t.rows.length
theorem lives_length {t : Tape} : t.lives.length = t.rows.length := by rw [Tape.lives, pairs_length, lasts_length]
theorem lives_fst {t : Tape} {n : Nat} (h : n < t.rows.length) : (t.lives.getD n (0, 0)).1 = n + 1 ∧ n + 1 ≤ (t.lives.getD n (0, 0)).2 ∧ (t.lives.getD n (0, 0)).2 ≤ t.rows.length := by
  have e : ∃ p, t.lives[n]? = some p := ⟨t.lives[n]'(by rw [lives_length]; exact h), by simp⟩
  obtain ⟨p, e⟩ := e
  rw [List.getD_eq_getElem?_getD, e]
  have m := lives_ok p (List.mem_of_getElem? e)
  rw [Tape.lives, pairs_get] at e
  cases q : t.lasts[n]? with
  | none => rw [q] at e; cases e
  | some l =>
    rw [q] at e
    cases e
    refine ⟨by show 0 + n + 1 = n + 1; omega, ?_, m.2.2⟩
    have := m.2.1
    show n + 1 ≤ l
    have : 0 + n + 1 ≤ l := this
    omega
theorem ovl_lat {t : Tape} {l n : Nat} (h : l < n) (k : n < t.rows.length) : ovl (t.lives.getD l (0, 0)) (t.lives.getD n (0, 0)) = lat t.lives n l := by
  unfold ovl lat
  have a := lives_fst (t := t) (n := l) (by omega)
  have b := lives_fst (t := t) (n := n) k
  rw [decide_eq_true (show (t.lives.getD l (0, 0)).1 ≤ (t.lives.getD n (0, 0)).2 by omega), Bool.true_and]
/-- two of one box that live together -/
def hit (lv : List (Nat × Nat)) (bs : List Int) (n l : Nat) : Bool := decide (bs.getD l 0 = bs.getD n 0) && lat lv n l
def clash (lv : List (Nat × Nat)) (bs : List Int) : Nat → Nat → List D
  | _, 0 => []
  | n, m + 1 => match fnd (hit lv bs n) 0 n with
    | some l => [.tuple [natD l, natD n]]
    | none => clash lv bs (n + 1) m
def intOf : D → Int
  | .int i => i
  | _ => 0
def boxOk : D → Bool
  | .int i => decide (0 ≤ i) && decide (i ≤ 399)
  | _ => false
def badB : Nat → List D → List D → List D
  | _, [], z => z
  | k, d :: ds, z => if boxOk d then badB (k + 1) ds z else [natD k]
/-- what is wrong with boxes -/
def Tape.wrongB (t : Tape) : D → List D
  | .tuple ds => if ds.length = t.rows.length then badB 0 ds (clash t.lives (ds.map intOf) 0 t.rows.length) else [.none]
  | _ => [.none]
theorem badB_all {z : List D} : ∀ {ds : List D} {k : Nat}, ds.all boxOk = true → badB k ds z = z
  | [], _, _ => rfl
  | d :: ds, k, h => by
    rw [List.all_cons, Bool.and_eq_true] at h
    rw [badB, if_pos h.1, badB_all h.2]
theorem badB_not {z : List D} : ∀ {ds : List D} {k : Nat}, ds.all boxOk = false → ∃ n, badB k ds z = [natD n]
  | [], _, h => by cases h
  | d :: ds, k, h => by
    rw [badB]
    split
    · rename_i c
      rw [List.all_cons, c, Bool.true_and] at h
      exact badB_not h
    · exact ⟨k, rfl⟩
theorem boxOk_int {d : D} (h : boxOk d = true) : ∃ i : Int, d = .int i ∧ 0 ≤ i ∧ i ≤ 399 := by
  cases d with
  | int i => exact ⟨i, rfl, by simpa [boxOk] using h⟩
  | _ => cases h
theorem boxes_ints {ds : List D} (h : ds.all boxOk = true) : ds = (ds.map intOf).map .int := by
  rw [List.map_map]
  conv => lhs; rw [← List.map_id ds]
  apply List.map_congr_left
  intro d hd
  obtain ⟨i, rfl, _⟩ := boxOk_int (List.all_eq_true.mp h d hd)
  rfl
theorem clash_nil {lv : List (Nat × Nat)} {bs : List Int} : ∀ {m n : Nat}, clash lv bs n m = [] ↔ ∀ x, n ≤ x → x < n + m → ∀ l, l < x → hit lv bs x l = false
  | 0, n => ⟨fun _ x h1 h2 => by omega, fun _ => rfl⟩
  | m + 1, n => by
    rw [clash]
    cases e : fnd (hit lv bs n) 0 n with
    | some l =>
      obtain ⟨h1, h2, h3, _⟩ := fnd_some e
      constructor
      · intro z; cases z
      · intro z
        rw [z n (Nat.le_refl _) (by omega) l (by omega)] at h1
        cases h1
    | none =>
      have h := fnd_none e
      show clash lv bs (n + 1) m = [] ↔ _
      rw [clash_nil]
      constructor
      · intro z x h1 h2 l hl
        by_cases q : x = n
        · subst q; exact h l (Nat.zero_le _) (by omega)
        · exact z x (by omega) (by omega) l hl
      · intro z x h1 h2
        exact z x (by omega) (by omega)
/-- what is wrong is one small thing -/
inductive WrongS : List D → Prop
  | no : WrongS []
  | non : WrongS [.none]
  | at (n : Nat) : WrongS [natD n]
  | two (l n : Nat) : WrongS [.tuple [natD l, natD n]]
theorem clash_shape {lv : List (Nat × Nat)} {bs : List Int} : ∀ {m n : Nat}, WrongS (clash lv bs n m)
  | 0, n => .no
  | m + 1, n => by
    rw [clash]
    cases fnd (hit lv bs n) 0 n with
    | some l => exact .two l n
    | none => exact clash_shape
theorem wrongB_shape {t : Tape} {d : D} : WrongS (t.wrongB d) := by
  unfold Tape.wrongB
  split
  · split
    · rename_i ds h
      cases c : ds.all boxOk with
      | true => rw [badB_all c]; exact clash_shape
      | false => obtain ⟨n, e⟩ := badB_not (z := clash t.lives (ds.map intOf) 0 t.rows.length) (k := 0) c; rw [e]; exact .at n
    · exact .non
  · exact .non

/-! ### as many boxes as the greatest load -/
section
variable {t : Tape}
theorem takenAt_mem {lv : List (Nat × Nat)} {f : List Nat} {n b : Nat} : b ∈ takenAt lv f n ↔ ∃ l, l < n ∧ lat lv n l = true ∧ f.getD l 0 = b := by
  unfold takenAt
  simp only [List.mem_map, List.mem_filter, List.mem_range]
  constructor
  · rintro ⟨l, ⟨h1, h2⟩, h3⟩; exact ⟨l, h1, h2, h3⟩
  · rintro ⟨l, h1, h2, h3⟩; exact ⟨l, ⟨h1, h2⟩, h3⟩
theorem boxes_at {n : Nat} (h : n < t.rows.length) : t.boxes.getD n 0 = mex (takenAt t.lives t.boxes n) := by
  unfold Tape.boxes
  rw [grd_get h]
  unfold takenAt
  congr 1
  apply List.map_congr_left
  intro l hl
  exact grd_pre (List.mem_range.mp (List.mem_filter.mp hl).1) (by omega)
theorem boxes_length : t.boxes.length = t.rows.length := grd_length
theorem boxes_ok {n l : Nat} (h : n < t.rows.length) (k : l < n) (e : t.boxes.getD l 0 = t.boxes.getD n 0) : lat t.lives n l = false := by
  cases q : lat t.lives n l with
  | false => rfl
  | true =>
    have m := (mex_spec (takenAt t.lives t.boxes n)).1
    rw [← boxes_at h] at m
    exact absurd (takenAt_mem.mpr ⟨l, k, q, e⟩) m
/-- does the n-th live at the moment mo -/
def livesAt (lv : List (Nat × Nat)) (mo n : Nat) : Bool := decide ((lv.getD n (0, 0)).1 ≤ mo) && decide (mo ≤ (lv.getD n (0, 0)).2)
theorem loadN_range {lv : List (Nat × Nat)} {mo : Nat} : loadN lv mo = ((List.range lv.length).filter (livesAt lv mo)).length := by
  unfold loadN
  rw [← List.countP_eq_length_filter]
  have e : lv = (List.range lv.length).map (lv.getD · (0, 0)) := by
    apply List.ext_getElem?
    intro i
    rw [List.getElem?_map]
    by_cases hi : i < lv.length
    · rw [List.getElem?_range hi, List.getElem?_eq_getElem hi, Option.map_some, List.getD_eq_getElem?_getD, List.getElem?_eq_getElem hi, Option.getD_some]
    · rw [List.getElem?_eq_none (by omega), List.getElem?_eq_none (by simp; omega)]; rfl
  conv => lhs; rw [e]
  rw [List.countP_map]
  rfl
theorem filter_nodup {p : Nat → Bool} {n : Nat} : ((List.range n).filter p).Nodup := List.nodup_range.filter p
/-- each box below one that is filled is filled by a value that lives then -/
theorem load_ge {n : Nat} (h : n < t.rows.length) : t.boxes.getD n 0 + 1 ≤ loadN t.lives (n + 1) := by
  rw [loadN_range, lives_length]
  have a : ∀ b, b < t.boxes.getD n 0 + 1 → b ∈ (((List.range t.rows.length).filter (livesAt t.lives (n + 1))).map (t.boxes.getD · 0)) := by
    intro b hb
    rw [List.mem_map]
    by_cases e : b = t.boxes.getD n 0
    · subst e
      have := lives_fst (t := t) h
      refine ⟨n, List.mem_filter.mpr ⟨List.mem_range.mpr h, ?_⟩, rfl⟩
      unfold livesAt
      rw [decide_eq_true (by omega), decide_eq_true (by omega)]; rfl
    · have hb2 : b < mex (takenAt t.lives t.boxes n) := by rw [← boxes_at h]; omega
      obtain ⟨l, h1, h2, h3⟩ := takenAt_mem.mp ((mex_spec _).2 b hb2)
      have q := lives_fst (t := t) h
      have q2 := lives_fst (t := t) (n := l) (by omega)
      unfold lat at h2
      have h2 := of_decide_eq_true h2
      refine ⟨l, List.mem_filter.mpr ⟨List.mem_range.mpr (by omega), ?_⟩, h3⟩
      unfold livesAt
      rw [decide_eq_true (by omega), decide_eq_true (by omega)]; rfl
  have := range_sub a
  simpa using this
theorem loads_mem {mo : Nat} (h : mo ≤ t.rows.length) : loadN t.lives mo ∈ t.loads := by
  unfold Tape.loads
  exact List.mem_map.mpr ⟨mo, List.mem_range.mpr (by omega), rfl⟩
theorem box_lt_peak {b : Nat} (h : b ∈ t.boxes) : b < t.peak := by
  obtain ⟨n, hn⟩ := List.mem_iff_getElem?.mp h
  have hl : n < t.rows.length := by
    have := (List.getElem?_eq_some_iff.mp hn).1
    rw [boxes_length] at this; exact this
  have e : t.boxes.getD n 0 = b := by rw [List.getD_eq_getElem?_getD, hn]; rfl
  have a := load_ge (t := t) hl
  rw [e] at a
  have := maxN_ge _ (loads_mem (t := t) (mo := n + 1) (by omega))
  unfold Tape.peak
  omega
/-- valid boxes: those that live at one moment differ -/
theorem load_le {bs : List Int} (hl : bs.length = t.rows.length) (ok : clash t.lives bs 0 t.rows.length = []) {mo : Nat} : loadN t.lives mo ≤ XV.cardI bs := by
  rw [loadN_range, lives_length]
  have a : (((List.range t.rows.length).filter (livesAt t.lives mo)).map (bs.getD · 0)).Nodup := by
    rw [List.nodup_iff_pairwise_ne, List.pairwise_map]
    have s : ((List.range t.rows.length).filter (livesAt t.lives mo)).Pairwise (· < ·) := List.pairwise_lt_range.filter _
    have m : ∀ x ∈ (List.range t.rows.length).filter (livesAt t.lives mo), x < t.rows.length ∧ livesAt t.lives mo x = true := fun x hx => by
      rw [List.mem_filter, List.mem_range] at hx; exact hx
    refine List.Pairwise.imp_of_mem (fun {x y} hx hy hxy e => ?_) s
    have h1 := clash_nil.mp ok y (Nat.zero_le _) (by have := (m y hy).1; omega) x hxy
    unfold hit at h1
    rw [decide_eq_true e, Bool.true_and] at h1
    unfold lat at h1
    have h1 := of_decide_eq_false h1
    have a := (m x hx).2
    have b := (m y hy).2
    unfold livesAt at a b
    simp only [Bool.and_eq_true, decide_eq_true_eq] at a b
    omega
  have b : (((List.range t.rows.length).filter (livesAt t.lives mo)).map (bs.getD · 0)) ⊆ XV.dd bs := fun x hx => by
    obtain ⟨l, hl', rfl⟩ := List.mem_map.mp hx
    have : l < bs.length := by rw [hl]; exact List.mem_range.mp (List.mem_filter.mp hl').1
    rw [XV.mem_dd, List.getD_eq_getElem?_getD, List.getElem?_eq_getElem this]
    exact List.getElem_mem _
  have := nodup_sub a b
  rw [List.length_map] at this
  exact this
theorem boxes_clash : clash t.lives (t.boxes.map toI) 0 t.rows.length = [] := clash_nil.mpr fun x _ h l hl => by
  unfold hit
  have hx : x < t.rows.length := by omega
  have e : ∀ i, (t.boxes.map toI).getD i 0 = toI (t.boxes.getD i 0) := fun i => by
    rw [List.getD_eq_getElem?_getD, List.getElem?_map, List.getD_eq_getElem?_getD]
    cases t.boxes[i]? <;> rfl
  rw [e, e]
  by_cases c : t.boxes.getD l 0 = t.boxes.getD x 0
  · rw [boxes_ok hx hl c, Bool.and_false]
  · rw [decide_eq_false fun z => c (by unfold toI at z; omega), Bool.false_and]
theorem box_below {n b : Nat} (h : n < t.rows.length) (k : b < t.boxes.getD n 0) : b ∈ t.boxes := by
  rw [boxes_at h] at k
  obtain ⟨l, h1, h2, h3⟩ := takenAt_mem.mp ((mex_spec _).2 b k)
  have hl : l < t.boxes.length := by rw [boxes_length]; omega
  rw [← h3, List.getD_eq_getElem?_getD, List.getElem?_eq_getElem hl]
  exact List.getElem_mem _
/-- the boxes are all numbers below the peak -/
theorem box_mem {b : Nat} : b ∈ t.boxes ↔ b < t.peak := by
  constructor
  · exact box_lt_peak
  · intro h
    -- the load at some moment is the peak
    have m := maxN_mem (loads_ne (t := t))
    unfold Tape.loads at m
    obtain ⟨mo, hmo, e⟩ := List.mem_map.mp m
    have e : loadN t.lives mo = t.peak := e
    have c := load_le (t := t) (bs := t.boxes.map toI) (by rw [List.length_map, boxes_length]) boxes_clash (mo := mo)
    rw [e] at c
    -- if b were not there, all boxes would be below b
    apply Classical.byContradiction
    intro nb
    have lt : ∀ x, x ∈ t.boxes → x < b := by
      intro x hx
      obtain ⟨n, hn⟩ := List.mem_iff_getElem?.mp hx
      have hl : n < t.rows.length := by
        have := (List.getElem?_eq_some_iff.mp hn).1
        rw [boxes_length] at this; exact this
      have ex : t.boxes.getD n 0 = x := by rw [List.getD_eq_getElem?_getD, hn]; rfl
      rcases Nat.lt_trichotomy x b with q | q | q
      · exact q
      · subst q; exact absurd hx nb
      · exact absurd (box_below hl (by rw [ex]; exact q)) nb
    have d : XV.dd (t.boxes.map toI) ⊆ (List.range b).map toI := fun y hy => by
      rw [XV.mem_dd] at hy
      obtain ⟨x, hx, rfl⟩ := List.mem_map.mp hy
      exact List.mem_map.mpr ⟨x, List.mem_range.mpr (lt x hx), rfl⟩
    have := nodup_sub (XV.dd_nodup _) d
    rw [List.length_map, List.length_range] at this
    unfold XV.cardI at c
    omega
theorem toI_nodup {n : Nat} : ((List.range n).map toI).Nodup := by
  rw [List.nodup_iff_pairwise_ne, List.pairwise_map]
  exact List.Pairwise.imp (fun {a b} h e => by unfold toI at e; omega) List.pairwise_lt_range
theorem boxes_card : XV.cardI (t.boxes.map toI) = t.peak := by
  rw [XV.cardI_eq (toI_nodup (n := t.peak)), List.length_map, List.length_range]
  intro k
  simp only [List.mem_map, List.mem_range]
  constructor
  · rintro ⟨x, h1, rfl⟩; exact ⟨x, box_mem.mpr h1, rfl⟩
  · rintro ⟨x, h1, rfl⟩; exact ⟨x, box_mem.mp h1, rfl⟩
theorem peak_le : t.peak ≤ t.rows.length := by
  have h := boxes_card (t := t)
  have : XV.cardI (t.boxes.map toI) ≤ (t.boxes.map toI).length := nodup_sub (XV.dd_nodup _) fun x hx => XV.mem_dd.mp hx
  rw [List.length_map, boxes_length] at this
  omega
/-! ### papers -/
/-- what is told of a paper: what is wrong, or how many boxes -/
inductive Due where
  | bad (d : D) | many (n : Nat)
def Tape.due (t : Tape) : D → Due
  | .tuple [bx, mo] => match t.wrongB bx with
    | _ :: _ => .bad (.str "boxes")
    | [] => match bx, mo with
      | .tuple ds, .int i => if 0 ≤ i ∧ i ≤ t.rows.length then (if XV.cardI (ds.map intOf) = loadN t.lives i.toNat then .many (XV.cardI (ds.map intOf)) else .bad (.str "number")) else .bad (.str "moment")
      | _, _ => .bad (.str "moment")
  | _ => .bad .none
theorem wrongB_nil {d : D} (h : t.wrongB d = []) : ∃ ds, d = .tuple ds ∧ ds.length = t.rows.length ∧ ds.all boxOk = true ∧ clash t.lives (ds.map intOf) 0 t.rows.length = [] := by
  unfold Tape.wrongB at h
  split at h
  · rename_i ds
    split at h
    · rename_i hl
      cases c : ds.all boxOk with
      | true => rw [badB_all c] at h; exact ⟨ds, rfl, hl, c, h⟩
      | false => obtain ⟨n, e⟩ := badB_not (z := clash t.lives (ds.map intOf) 0 t.rows.length) (k := 0) c; rw [e] at h; cases h
    · cases h
  · cases h
def momOk (n : Nat) : D → Bool
  | .int i => decide (0 ≤ i) && decide (i ≤ (n : Nat))
  | _ => false
theorem due_boxes {bx mo x : D} {r : List D} (h : t.wrongB bx = x :: r) : t.due (.tuple [bx, mo]) = .bad (.str "boxes") := by
  show (match t.wrongB bx with | _ :: _ => _ | [] => _) = _
  rw [h]
theorem due_moment {bx mo : D} (h : t.wrongB bx = []) (k : momOk t.rows.length mo = false) : t.due (.tuple [bx, mo]) = .bad (.str "moment") := by
  show (match t.wrongB bx with | _ :: _ => _ | [] => _) = _
  rw [h]
  obtain ⟨ds, rfl, _⟩ := wrongB_nil h
  cases mo with
  | int i =>
    refine if_neg fun z => ?_
    simp [momOk, z] at k
  | _ => rfl
theorem due_at {ds : List D} {i : Int} (h : t.wrongB (.tuple ds) = []) (k : momOk t.rows.length (.int i) = true) : t.due (.tuple [.tuple ds, .int i]) = if XV.cardI (ds.map intOf) = loadN t.lives i.toNat then .many (XV.cardI (ds.map intOf)) else .bad (.str "number") := by
  show (match t.wrongB (.tuple ds) with | _ :: _ => _ | [] => _) = _
  rw [h]
  refine if_pos ?_
  simpa [momOk] using k
theorem intOf_nat (bs : List Nat) : (bs.map natD).map intOf = bs.map toI := by rw [List.map_map]; rfl
theorem wrongB_boxes {bs : List Nat} (hl : bs.length = t.rows.length) (h : ∀ b ∈ bs, b ≤ 399) (ok : clash t.lives (bs.map toI) 0 t.rows.length = []) : t.wrongB (.tuple (bs.map natD)) = [] := by
  show (if (bs.map natD).length = t.rows.length then badB 0 (bs.map natD) (clash t.lives ((bs.map natD).map intOf) 0 t.rows.length) else [.none]) = []
  rw [List.length_map, if_pos hl, badB_all, intOf_nat, ok]
  rw [List.all_map, List.all_eq_true]
  intro b hb
  have := h b hb
  show (decide (0 ≤ (b : Int)) && decide ((b : Int) ≤ 399)) = true
  rw [decide_eq_true (by omega), decide_eq_true (by omega)]; rfl
theorem wrongB_first (ok : t.Ok) : t.wrongB (.tuple (t.boxes.map natD)) = [] := wrongB_boxes boxes_length (fun b hb => by
  have := box_lt_peak hb
  have := peak_le (t := t)
  have := ok.rl
  omega) boxes_clash
end
end TP

-- XV8
set_option autoImplicit true
namespace XV
open PySem PySem.Spec PyProof.Rows L2
/-! ### y = {k: v for ..}, y a local -/
section
variable {X : Cx} {i : Nat} {y : Str} {kx vx tg it : Expr} {cs : List Expr} {sc : Scope} {own : List (Str × Nat)} {p p2 p3 : Pos} {wi : TI} {g : TG} {tt : TT} {tk tv : TE}
theorem sw_dict {gs : List Comprehension} {l : Nat} {env : Env} (k1 : env.scope.kind = .function) (k2 : env.scope.names.lookup y = some .local) (k3 : (p2.line == p.line) = true)
    (k4 : (sc.names.any fun z => z.1 == y && (z.2 == .local || z.2 == .cell)) = false) : swapsWith (.DictComp kx vx gs sc p) (some (.Name y p2)) l env = pure true := by
  have e1 : env.kindOf y = some .local := k2
  have e2 : env.blockKind = .function := by unfold Env.blockKind; rw [k1]; rfl
  unfold swapsWith
  simp only [e1, e2, k3, k4, Expr.pos]
  rfl
theorem ps_setDc (calm : X.calm = true) (nd : X.N.Nodup) (yi : X.N[i]? = some y) (yl : X.env.scope.names.lookup y = some .local) (sw : swapsWith (.DictComp kx vx [⟨tg, it, cs, 0⟩] sc p) (some (.Name y p2)) p3.line X.env = pure true)
    (hi : PI X tg it wi) (ok : BlkOk X.N X.env.scope sc own)
    (h1 : ∀ (s : Shared) (H : Hp) (C : Addr) (cl : List (Str × Addr)) (fp : List Addr), PG (X.blk s H sc (compEnvC sc cl C X.env) fp) tg g) (h2 : ∀ (s : Shared) (H : Hp) (C : Addr) (cl : List (Str × Addr)) (fp : List Addr), PTs (X.blk s H sc (compEnvC sc cl C X.env) fp) cs tt)
    (h3 : ∀ (s : Shared) (H : Hp) (C : Addr) (cl : List (Str × Addr)) (fp : List Addr), PE (X.blk s H sc (compEnvC sc cl C X.env) fp) kx tk) (h4 : ∀ (s : Shared) (H : Hp) (C : Addr) (cl : List (Str × Addr)) (fp : List Addr), PE (X.blk s H sc (compEnvC sc cl C X.env) fp) vx tv)
    (hs : ∀ x, foldedSetIterable it X.env x = pure x := by intro _; rfl) :
    PS X (.Assign [.Name y p2] (.DictComp kx vx [⟨tg, it, cs, 0⟩] sc p) p3) (tAsg (tDc wi g tt tk tv (own.map (·.2))) (gName i)) := by
  refine ⟨fun pins s σ H D I h => ?_⟩
  rw [exec_Assign_Name_used _ _ _ _ sw]
  refine wpAny_bind (wpAny_standAt (wpAny_bind ?_))
  show wpAny _ X.A (do let _ ← comprehension (.DictComp kx vx [⟨tg, it, cs, 0⟩] sc p) sc X.env (firstIterPos [⟨tg, it, cs, 0⟩] p) newDict false (eval it X.env) (some (assign (.Name y p2) X.env))) _ _ s
  have q : tDc wi g tt tk tv (own.map (·.2)) σ H (fun x H1 => gName i x σ H1 D.nx) := h
  refine wpAny_bind (thn (dc_core (Qf := fun _ z => SP X pins D .next z) calm nd I hi ok h1 h2 h3 h4 hs q fun L C s1 m H1 I1 q1 hn f => ?_) fun _ z hq => wpAny_pure (wpAny_pure hq))
  show wpAny _ _ (assign (.Name y p2) X.env (.ref L)) _ _ _
  obtain ⟨f0, f1, f2, f3, f4, f5⟩ := f
  refine wpAny_assign_Name (store_ok2 (v := V.ref L) I1 nd yi (.inl yl) rfl (fun s2 I2 ⟨a, sb, ha⟩ => ?_) (.inr yl))
  have ne : C ≠ a := ha.elim (fun z => z ▸ f1) fun z e => f4 y a z e.symm
  exact ⟨m, hn.sameBut sb ne, fun g3 sb3 => ⟨_, H1, I2.turned (t' := s2.toks) (fun b o hb e => (sb3.2 b hb).trans e) f0 f1 f3 f4 f5, q1⟩⟩
end
end XV

-- DL16
set_option autoImplicit true
namespace DL
open PySem PySem.Spec PyProof.Rows L2
/-! ### dict comprehensions: what is in them -/
def addK (acc : List (Key × D)) : Option (Key × D) → List (Key × D)
  | some p => putD acc p.1 p.2
  | none => acc
def hasK (kvs : List (Key × D)) (k : Key) : Bool := kvs.any fun kv => decide (kv.1 = k)
theorem getD'_has (kvs : List (Key × D)) (k : Key) : (getD' kvs k).isSome = hasK kvs k := by
  unfold getD' hasK
  rw [Option.isSome_map, Bool.eq_iff_iff, List.find?_isSome, List.any_eq_true]
theorem hasK_put {kvs : List (Key × D)} {c k : Key} {d : D} : hasK (putD kvs c d) k = (hasK kvs k || decide (c = k)) := by
  have hm : ∀ l : List (Key × D), hasK (l.map fun kv => if kv.1 = c then (kv.1, d) else kv) k = hasK l k := by
    intro l
    unfold hasK
    rw [List.any_map]
    congr 1
    funext kv
    show decide ((if kv.1 = c then (kv.1, d) else kv).1 = k) = _
    split <;> rfl
  unfold putD
  split
  · rename_i h
    rw [hm]
    by_cases e : c = k
    · subst e
      have : hasK kvs c = true := h
      rw [this]; simp
    · rw [decide_eq_false e, Bool.or_false]
  · unfold hasK
    rw [List.any_append]
    simp
theorem dcGo_map {α : Type} {g : TDG} {tt : TDT} {tk tv : TD} {is : List Nat} {k : List (Key × D) → Rho → Prop} {f : α → Sl} {ρ : Rho} (F : α → Option (Key × D)) : ∀ (xs : List α) (acc : List (Key × D))
    (step : ∀ x ∈ xs, ∀ acc (W : List (Key × D) → Rho → Prop), W (addK acc (F x)) ρ → g (f x) (wipeR ρ is) fun ρ2 => tt ρ2 fun b ρ3 => cnd b (tk ρ3 fun s ρ4 => tv ρ4 fun s' ρ5 => match keyS s, s'.toD with
    | some c, some d => W (putD acc c d) (wipeR ρ5 is)
    | _, _ => False) (W acc (wipeR ρ3 is))), k (xs.foldl (fun a x => addK a (F x)) acc) ρ → dcGo g tt tk tv is k (xs.map f) acc ρ
  | [], acc, _, h => h
  | x :: xs, acc, step, h => step x (by simp) acc (fun acc ρ => dcGo g tt tk tv is k (xs.map f) acc ρ) (dcGo_map F xs _ (fun y hy => step y (by simp [hy])) h)
theorem dcGo_rng {g : TDG} {tt : TDT} {tk tv : TD} {is : List Nat} {k : List (Key × D) → Rho → Prop} {lo : Int} {n : Nat} {ρ : Rho} (F : Nat → Option (Key × D))
    (step : ∀ j < n, ∀ acc (W : List (Key × D) → Rho → Prop), W (addK acc (F j)) ρ → g (.da (.int (lo + (j : Nat)))) (wipeR ρ is) fun ρ2 => tt ρ2 fun b ρ3 => cnd b (tk ρ3 fun s ρ4 => tv ρ4 fun s' ρ5 => match keyS s, s'.toD with
    | some c, some d => W (putD acc c d) (wipeR ρ5 is)
    | _, _ => False) (W acc (wipeR ρ3 is))) (h : k ((List.range n).foldl (fun a x => addK a (F x)) []) ρ) : dcGo g tt tk tv is k (rgS lo n) [] ρ :=
  dcGo_map F (List.range n) [] (fun j hj => step j (List.mem_range.mp hj)) h
theorem hasK_fold {α : Type} {F : α → Option (Key × D)} {k : Key} : ∀ {xs : List α} {acc : List (Key × D)}, hasK (xs.foldl (fun a x => addK a (F x)) acc) k = (hasK acc k || xs.any fun x => match F x with | some p => decide (p.1 = k) | none => false)
  | [], acc => by simp
  | x :: xs, acc => by
    rw [List.foldl_cons, hasK_fold, List.any_cons]
    cases e : F x with
    | none => simp [addK]
    | some p =>
      show (hasK (putD acc p.1 p.2) k || _) = _
      rw [hasK_put, Bool.or_assoc]
theorem s_setDc {X : Cx} {C : DC} {st : Stmt} {i : Nat} {ti : TDI} {g : TDG} {tt : TDT} {tk tv : TD} {is js : List Nat} (hs : ∀ i ∈ js, i ∈ is) (h : PS X st (tAsg (tDc (LI C ti) (LG C js g) (LT C tt) (LE C tk) (LE C tv) is) (gName i))) : PS X st (LS C (sAsg (dDc ti g tt tk tv is) (dgName i))) :=
  imp_s h fun D σ H q => asg_le (fun _ q => dc_le hs q) q
/-! ### a, b = x, y, where the names are cells -/
def gsN : List Nat → TGs
  | [] => gNil
  | i :: is => gCons (gName i) (gsN is)
def setN : List Nat → List Sl → Rho → (Rho → Prop) → Prop
  | [], [], ρ, Q => Q ρ
  | i :: is, s :: rs, ρ, Q => match ρ[i]? with
    | some _ => setN is rs (ρ.set i s) Q
    | none => False
  | _, _, _, _ => False
def sParC (is : List Nat) (ta : TDA) : TDS := fun D ρ => ta ρ fun rs ρ1 => cnd (Nat.beq rs.length is.length && Nat.ble is.length 100) (setN is rs ρ1 D.nx) False
theorem setN_le {C : DC} {Hd H : Hp} {Q : L2.St → Hp → Prop} {vs : List V} {ss : List Sl} : ∀ (is : List Nat) {ws : List V} {rs : List Sl} {σ : L2.St} {ρ : Rho} {Qd : Rho → Prop}, En C Hd H σ ρ (ws ++ vs) (rs ++ ss) → ws.length = rs.length → setN is rs ρ Qd →
    (∀ σ' ρ', Qd ρ' → En C Hd H σ' ρ' vs ss → Q σ' H) → gsN is ws σ H Q
  | [], [], [], σ, ρ, Qd, E, _, q, k => ⟨rfl, k _ _ q E⟩
  | i :: is, w :: ws, s :: rs, σ, ρ, Qd, E, l, q, k => by
    unfold setN at q
    cases e : ρ[i]? with
    | none => rw [e] at q; exact q.elim
    | some z =>
      rw [e] at q
      exact ⟨w, ws, rfl, setN_le is (En.put (v := w) (s := s) E (List.getElem?_eq_some_iff.mp e).1) (by simpa using l) q k⟩
  | [], _ :: _, [], _, _, _, _, l, _, _ => by simp at l
  | [], _, _ :: _, _, _, _, _, _, q, _ => q.elim
  | _ :: _, [], _ :: _, _, _, _, _, l, _, _ => by simp at l
  | _ :: _, _, [], _, _, _, _, _, q, _ => q.elim
theorem s_parC {X : Cx} {C : DC} {st : Stmt} {is : List Nat} {ta : TDA} (h : PS X st (tAsg (tTup (LA C ta)) (gTup X.K is.length (gsN is)))) : PS X st (LS C (sParC is ta)) := imp_s h fun D σ H ⟨Hd, ρ, vs, ss, Dd, E, L, q⟩ =>
  ⟨Hd, ρ, vs, ss, _, E, fun rs ρ1 ws Hd1 H1 q1 l E1 => by
    obtain ⟨hl, q1⟩ := cnd_inv q1
    rw [Bool.and_eq_true] at hl
    have h1 := Nat.eq_of_beq_eq_true hl.1
    have h2 := Nat.le_of_ble_eq_true hl.2
    refine ⟨by rw [l, sizeLine_eq]; omega, fun p np => ⟨p, ws, rfl, SqT.of upd_same, by rw [l, h1], ?_⟩⟩
    have E2 : En C Hd1 (upd H1 p (.tup ws)) σ ρ1 (ws ++ vs) (rs ++ ss) := E1.grow (Sub.refl _) (sub_upd np) (E1.sub.trans (sub_upd np)) (fun _ _ _ _ => rfl) (tabs_new E1.tabs np)
    exact setN_le is E2 l q1 fun σ' ρ' qd E' => L.nx _ _ _ _ qd E', q⟩
end DL

-- K81E
set_option autoImplicit false
namespace K81
open PySem PySem.Spec PyProof.Rows L2 DL TP
theorem wholeB {d : D} : wholeD d 0 399 = boxOk d := by cases d <;> rfl
section
variable {P : Program} {w : World} {K : PySem.W.Frag} {mg : Str → Option Value} {base : Heap} {xf : XT} {xa : Str → Addr}
abbrev sDoOverlap : Stmt := topS 34
abbrev nDoOverlap : List Str := ["one", "other"]
theorem scDoOverlap : FnScope nDoOverlap ["one", "other"] (defScope sDoOverlap) := ⟨rfl, rfl, rfl, by decide +kernel, rfl, by decide +kernel, by decide +kernel⟩
def PDoOverlap : PD := fun rs Qd _ => ∃ p q : Nat × Nat, rs = [.da (.list (lifeL p)), .da (.list (lifeL q))] ∧ Qd (.bool (ovl p q))
theorem c_do_overlap (T : TxtF K mg "do_overlap" sDoOverlap ["one", "other"]) (B : Blt mg) : CalG P w K mg base false 1 "do_overlap" ["one", "other"] (spD K xf PDoOverlap) := by
  refine T.okD (xf := xf) (k := 0) scDoOverlap (fun rs Qd Ed hp => ?_) fun f cdv A outer s H Hd E rs Qd Ed hr hgd xw hp => ?_
  · obtain ⟨p, q, rfl, _⟩ := hp; rfl
  refine ⟨_, (ss_one (s_ret (q_and (q_bin o_le (pe_cmpR op_le (q_ixV rfl (pe_ix ix_seq (pv 0) q_int (fun _ _ => rfl))) (q_ixV rfl (pe_ix ix_seq (pv 1) q_int (fun _ _ => rfl))) (nomark _))) (q_one (q_bin o_le (pe_cmpR op_le (q_ixV rfl (pe_ix ix_seq (pv 1) q_int (fun _ _ => rfl))) (q_ixV rfl (pe_ix ix_seq (pv 0) q_int (fun _ _ => rfl))) (nomark _))))))), ?_⟩
  obtain ⟨p, q, rfl, h⟩ := hp
  unfold ovl at h
  (conv => whnf)
  refine cnd_of (fun g => ?_) fun g => ?_
  · have g := of_decide_eq_true g
    rw [decide_eq_true (show p.1 ≤ q.2 by omega), Bool.true_and] at h
    (conv => whnf)
    rw [show decide ((q.1 : Int) ≤ (p.2 : Nat)) = decide (q.1 ≤ p.2) from decide_eq_decide.mpr (by omega)]
    exact h
  · have g := of_decide_eq_false g
    rw [decide_eq_false (show ¬ p.1 ≤ q.2 by omega), Bool.false_and] at h
    exact h
abbrev sWrongBoxes : Stmt := topS 35
abbrev nWrongBoxes : List Str := ["tape", "thing", "number", "box", "lives", "less"]
theorem scWrongBoxes : FnScope nWrongBoxes ["tape", "thing"] (defScope sWrongBoxes) := ⟨rfl, rfl, rfl, by decide +kernel, rfl, by decide +kernel, by decide +kernel⟩
def PWrongBoxes : PD := fun rs Qd _ => ∃ t : Tape, ∃ d, t.Ok ∧ rs = [.da t.enc, .da d] ∧ Qd (.list (t.wrongB d))
theorem c_wrong_boxes (T : TxtF K mg "wrong_boxes" sWrongBoxes ["tape", "thing"]) (B : Blt mg) (c_is_whole : CalG P w K mg base false 1 "is_whole" ["thing", "least", "most"] (spD K xf PIsWhole)) (c_own_lives : CalG P w K mg base false 2 "own_lives" ["tape"] (spD K xf POwnLives)) (c_do_overlap : CalG P w K mg base false 1 "do_overlap" ["one", "other"] (spD K xf PDoOverlap)) (g_MOST_BOX : GD K mg "MOST_BOX" CMOST_BOX) : CalG P w K mg base false 3 "wrong_boxes" ["tape", "thing"] (spD K xf PWrongBoxes) := by
  have m_len := B.len
  have m_isinstance := B.isinstance
  have m_tuple := B.tuple
  have m_enumerate := B.enumerate
  have m_range := B.range
  refine T.okD (xf := xf) (k := 2) scWrongBoxes (fun rs Qd Ed hp => ?_) fun f cdv A outer s H Hd E rs Qd Ed hr hgd xw hp => ?_
  · obtain ⟨t, d, _, rfl, _⟩ := hp; rfl
  refine ⟨_, (ss_cons (s_if (t_w (w_or (t_not (t_val (q_isi rfl (fun _ _ _ _ h => k_tuple h) (pe_callB call_isi (by rfl) m_isinstance PyProof.Rows.boot_isinstance (pa_cons (q_var (pv 1)) (pa_cons (pe_bltn (by rfl) m_tuple PyProof.Rows.boot_tuple rfl) pa_nil)))))) (w_or1 (t_bin (o_ne rfl) (pt_cmpR (op_neU hr.units) (q_lenV rfl (pe_callB call_len (by rfl) m_len PySem.boot_len (pa_cons (pv 1) pa_nil))) (q_b (n_len rfl) (pe_callB call_len (by rfl) m_len PySem.boot_len (a_cons (q_ixV rfl (pe_ix ix_seq (pv 0) q_int (fun _ _ => rfl))) a_nil))) (nomark _)))))) (ss_one (s_ret (q_lst (a_cons q_non a_nil)))) ss_nil) (ss_cons (s_for (ps_for (passes_of rfl) rfl (i_enum rfl (pi_enumA (by rfl) m_enumerate (a_cons (q_var (pv 1)) a_nil))) (g_tup (n := 2) rfl rfl (g_cons (g_name (pg_name (i := 2) scWrongBoxes.nd rfl (by first | exact .inl rfl | exact .inr rfl))) (g_cons (g_name (pg_name (i := 3) scWrongBoxes.nd rfl (by first | exact .inl rfl | exact .inr rfl))) g_nil))) (ss_one (s_if (t_not (t_val (q_call xw (pe_gc c_is_whole hr (by decide) (fun z => nomatch z) (by rfl) (takes_of rfl rfl rfl rfl) (a_cons (q_var (pv 3)) (a_cons q_int (a_cons (q_gdata (by rfl) g_MOST_BOX) a_nil))))))) (ss_one (s_ret (q_lst (a_cons (q_var (pv 2)) a_nil)))) ss_nil)))) (ss_cons (s_set (ps_set (i := 4) scWrongBoxes.nd rfl (by first | exact .inl rfl | exact .inr rfl) (q_call xw (pe_gc c_own_lives hr (by decide) (fun z => nomatch z) (by rfl) (takes_of rfl rfl rfl rfl) (a_cons (q_var (pv 0)) a_nil))))) (ss_cons (s_for (ps_for (passes_of rfl) rfl (i_enum rfl (pi_enumA (by rfl) m_enumerate (a_cons (q_var (pv 1)) a_nil))) (g_tup (n := 2) rfl rfl (g_cons (g_name (pg_name (i := 2) scWrongBoxes.nd rfl (by first | exact .inl rfl | exact .inr rfl))) (g_cons (g_name (pg_name (i := 3) scWrongBoxes.nd rfl (by first | exact .inl rfl | exact .inr rfl))) g_nil))) (ss_one (s_for (ps_for (passes_of rfl) rfl (i_rng1 (pi_range1 rfl m_range (a_cons (q_var (pv 2)) a_nil))) (g_name (pg_name (i := 5) scWrongBoxes.nd rfl (by first | exact .inl rfl | exact .inr rfl))) (ss_one (s_if (t_w (w_and (t_bin (o_eq rfl) (pt_cmpR (op_eqU hr.units) (q_ixV rfl (pe_ix ix_seq (pv 1) (q_var (pv 5)) (fun _ _ => rfl))) (q_var (pv 3)) (nomark _))) (w_and1 (t_val (q_call xw (pe_gc c_do_overlap hr (by decide) (fun z => nomatch z) (by rfl) (takes_of rfl rfl rfl rfl) (a_cons (q_ixV rfl (pe_ix ix_seq (pv 4) (q_var (pv 5)) (fun _ _ => rfl))) (a_cons (q_ixV rfl (pe_ix ix_seq (pv 4) (q_var (pv 2)) (fun _ _ => rfl))) a_nil)))))))) (ss_one (s_ret (q_lst (a_cons (q_tup (a_cons (q_var (pv 5)) (a_cons (q_var (pv 2)) a_nil))) a_nil)))) ss_nil))))))) (ss_one (s_ret (q_lst a_nil))))))), ?_⟩
  obtain ⟨t, d, ok, rfl, q⟩ := hp
  have h64 : t.rows.length ≤ 400 := ok.rl
  cases d with
  | tuple ds =>
    (conv => whnf)
    refine cnd_of (fun g => ?_) fun g => ?_
    · have g := of_decide_eq_false (not_t g)
      rw [List.length_map] at g
      have e : t.wrongB (.tuple ds) = [.none] := if_neg fun z => g (by omega)
      rw [e] at q
      exact q
    have g := of_decide_eq_true (not_f g)
    rw [List.length_map] at g
    have hl : ds.length = t.rows.length := by omega
    have e : t.wrongB (.tuple ds) = badB 0 ds (clash t.lives (ds.map intOf) 0 t.rows.length) := if_pos hl
    rw [e] at q
    (conv => whnf)
    refine forGo_enumD (fun k rest ρ => ∃ a b, ρ = [.da t.enc, .da (.tuple ds), a, b, .un, .un] ∧ Qd (.list (badB k rest (clash t.lives (ds.map intOf) 0 t.rows.length))) ∧ (rest.all boxOk = true → ds.all boxOk = true)) ?_ ?_ _ _ _ ⟨_, _, rfl, q, id⟩
    · rintro k d rest ρ W hW ⟨a, b, rfl, q, h⟩
      rw [badB, ← wholeB] at q
      (conv => whnf)
      refine cnd_of (fun c => ?_) fun c => ?_
      · rw [show wholeD d 0 399 = false from not_t c] at q
        exact q
      · have c : wholeD d 0 399 = true := not_f c
        rw [c] at q
        refine hW _ ⟨_, _, rfl, q, fun z => h ?_⟩
        rw [List.all_cons, ← wholeB, c, z]; rfl
    · rintro k ρ ⟨a, b, rfl, q1, h⟩
      have all := h rfl
      have q2 : Qd (.list (clash t.lives (ds.map intOf) 0 t.rows.length)) := q1
      have ei := boxes_ints all
      clear q q1 e h g all
      generalize ds.map intOf = is at ei q2
      subst ei
      rw [List.length_map] at hl
      rw [← hl] at q2
      (conv => whnf)
      refine ⟨t, ok, rfl, ?_⟩
      rw [encL_pairs, List.map_map]
      (conv => whnf)
      refine forGo_enum (fun n rest ρ => ∃ a b c, ρ = [.da t.enc, .da (.tuple (is.map .int)), a, b, .da (.list (t.lives.map (PyData.list ∘ lifeL))), c] ∧ Qd (.list (clash t.lives is n rest.length)) ∧ is.drop n = rest) ?_ ?_ _ _ _ ⟨_, _, _, rfl, q2, rfl⟩
      · rintro n x rest ρ W hW ⟨a, b, c, rfl, q, hd⟩
        have hn : is[n]? = some x := by have z := congrArg (·[0]?) hd; simpa using z
        have hn' : n < is.length := (List.getElem?_eq_some_iff.mp hn).1
        have hn2 : n < t.rows.length := by omega
        have ex : is.getD n 0 = x := by rw [List.getD_eq_getElem?_getD, hn]; rfl
        rw [List.length_cons, clash] at q
        (conv => whnf)
        refine cnd_t (ble_t (by simp only [Int.natAbs_natCast]; omega)) ?_
        refine forGo_rng (fun k ρ => ∃ c, ρ = [.da t.enc, .da (.tuple (is.map .int)), .da (natD n), .da (.int x), .da (.list (t.lives.map (PyData.list ∘ lifeL))), c] ∧ Qd (.list (match fnd (hit t.lives is n) k (n - k) with | some l => [.tuple [natD l, natD n]] | none => clash t.lives is (n + 1) rest.length))) ?_ ?_ ⟨_, rfl, q⟩
        · rintro k ρ W hk hW ⟨c, rfl, q⟩
          have hk : k < n := by rw [Int.toNat_natCast] at hk; exact hk
          rw [show n - k = (n - (k + 1)) + 1 by omega, fnd_succ] at q
          have hk' : k < is.length := by omega
          have ey : is.getD k 0 = is[k] := by rw [List.getD_eq_getElem?_getD, List.getElem?_eq_getElem hk']; rfl
          have gl : ∀ j, j < t.rows.length → (t.lives.map (PyData.list ∘ lifeL))[j]? = some (.list (lifeL (t.lives.getD j (0, 0)))) := fun j hj => by
            have hj : j < t.lives.length := by rw [lives_length]; exact hj
            rw [List.getElem?_map, List.getD_eq_getElem?_getD, List.getElem?_eq_getElem hj]; rfl
          (conv => whnf)
          refine someQ_of (atD_nat (k := k) (by omega) (by rw [List.getElem?_map, List.getElem?_eq_getElem hk']; rfl)) ?_
          (conv => whnf)
          have hh : hit t.lives is n k = (decide (is[k] = x) && lat t.lives n k) := by unfold hit; rw [ey, ex]
          rw [hh] at q
          refine cnd_of (fun c1 => ?_) fun c1 => ?_
          · rw [decide_eq_true (of_decide_eq_true c1), Bool.true_and, ← ovl_lat hk hn2] at q
            (conv => whnf)
            refine someQ_of (atD_nat (k := k) (by omega) (gl k (by omega))) ?_
            (conv => whnf)
            refine someQ_of (atD_nat (k := n) rfl (gl n hn2)) ?_
            (conv => whnf)
            refine ⟨_, _, rfl, ?_⟩
            (conv => whnf)
            refine cnd_of (fun c2 => ?_) fun c2 => ?_
            · rw [c2] at q
              rw [show (0 : Int) + (k : Int) = ((k : Nat) : Int) by omega]
              exact q
            · rw [c2] at q
              exact hW _ ⟨_, rfl, q⟩
          · rw [decide_eq_false (of_decide_eq_false c1), Bool.false_and] at q
            exact hW _ ⟨_, rfl, q⟩
        · rintro ρ ⟨c, rfl, q⟩
          rw [Int.toNat_natCast, Nat.sub_self] at q
          exact hW _ ⟨_, _, _, rfl, q, by rw [← List.drop_drop, hd]; rfl⟩
      · rintro n ρ ⟨a, b, c, rfl, q, -⟩
        exact q
  | _ => exact q
abbrev sNeedBoxes : Stmt := topS 36
abbrev nNeedBoxes : List Str := ["tape", "boxes", "wrong"]
theorem scNeedBoxes : FnScope nNeedBoxes ["tape", "boxes"] (defScope sNeedBoxes) := ⟨rfl, rfl, rfl, by decide +kernel, rfl, by decide +kernel, by decide +kernel⟩
def PNeedBoxes (xa : Str → Addr) : PD := fun rs Qd Ed => (∃ t : Tape, ∃ d, t.Ok ∧ rs = [.da t.enc, .da d] ∧ (match t.wrongB d with | [] => Qd .none | p :: _ => Ed (xa "BadMap") p)) ∨ (∃ d p d2, (d, p) ∈ badT ∧ rs = [.da d, .da d2] ∧ Ed (xa "BadTape") p)
theorem c_need_boxes (T : TxtF K mg "need_boxes" sNeedBoxes ["tape", "boxes"]) (B : Blt mg) (c_need_tape : CalG P w K mg base false 5 "need_tape" ["tape"] (spD K xf (PNeedTape xa))) (c_wrong_boxes : CalG P w K mg base false 3 "wrong_boxes" ["tape", "thing"] (spD K xf PWrongBoxes)) (x_BadMap : XC P w K mg base xf "BadMap" (xa "BadMap") "place") : CalG P w K mg base false 6 "need_boxes" ["tape", "boxes"] (spD K xf (PNeedBoxes xa)) := by
  refine T.okD (xf := xf) (k := 5) scNeedBoxes (fun rs Qd Ed hp => ?_) fun f cdv A outer s H Hd E rs Qd Ed hr hgd xw hp => ?_
  · rcases hp with ⟨t, _, _, rfl, _⟩ | ⟨d, p, _, _, rfl, _⟩ <;> rfl
  refine ⟨_, (ss_cons (s_expr (q_call xw (pe_gc c_need_tape hr (by decide) (fun z => nomatch z) (by rfl) (takes_of rfl rfl rfl rfl) (a_cons (q_var (pv 0)) a_nil)))) (ss_cons (s_set (ps_set (i := 2) scNeedBoxes.nd rfl (by first | exact .inl rfl | exact .inr rfl) (q_call xw (pe_gc c_wrong_boxes hr (by decide) (fun z => nomatch z) (by rfl) (takes_of rfl rfl rfl rfl) (a_cons (q_var (pv 0)) (a_cons (q_var (pv 1)) a_nil)))))) (ss_one (s_if (t_bin (o_ne rfl) (pt_cmpR (op_neU hr.units) (q_var (pv 2)) (q_lst a_nil) (nomark _))) (ss_one (s_raise xw x_BadMap.xf rfl (takes_of rfl rfl rfl rfl) (pmk_c x_BadMap (hr.mono (by decide)) (by rfl) (q_ixV rfl (pe_ix ix_seq (pv 2) q_int (fun _ _ => rfl)))))) ss_nil)))), ?_⟩
  rcases hp with ⟨t, d, ok, rfl, q⟩ | ⟨d, p, d2, hb, rfl, q⟩
  · (conv => whnf)
    refine .inl ⟨t, ok, rfl, ?_⟩
    (conv => whnf)
    refine ⟨t, d, ok, rfl, ?_⟩
    have s := wrongB_shape (t := t) (d := d)
    generalize t.wrongB d = wr at s q
    cases s with
    | no => (conv => whnf); exact ⟨rfl, rfl, q⟩
    | non => (conv => whnf); exact ⟨rfl, rfl, q⟩
    | «at» n => (conv => whnf); exact ⟨rfl, rfl, q⟩
    | two l n => (conv => whnf); exact ⟨rfl, rfl, q⟩
  · (conv => whnf)
    refine .inr ⟨d, p, hb, rfl, ?_⟩
    exact q
end
end K81

-- K81F
set_option autoImplicit false
namespace K81
open PySem PySem.Spec PyProof.Rows L2 DL TP
theorem idx_of {x : Nat} : ∀ {ls : List Nat}, x ∈ ls → ∃ j, j < ls.length ∧ ((ls.map natD).findIdx? fun z => PyData.eqv z (natD x)) = some j ∧ ls[j]? = some x := by
  intro ls h
  have hi : ((ls.map natD).findIdx? fun z => PyData.eqv z (natD x)).isSome = true := by
    rw [List.findIdx?_isSome, List.any_map, List.any_eq_true]
    exact ⟨x, h, by simp [natD, PyData.eqv]⟩
  obtain ⟨j, hj⟩ := Option.isSome_iff_exists.mp hi
  obtain ⟨jl, e1, _⟩ := List.findIdx?_eq_some_iff_getElem.mp hj
  rw [List.length_map] at jl
  rw [List.getElem_map] at e1
  have e : ls[j] = x := by
    simp [natD, PyData.eqv] at e1
    omega
  exact ⟨j, jl, hj, by rw [List.getElem?_eq_getElem jl, e]⟩
section
variable {P : Program} {w : World} {K : PySem.W.Frag} {mg : Str → Option Value} {base : Heap} {xf : XT} {xa : Str → Addr}
abbrev sOwnFirstBoxes : Stmt := topS 37
abbrev nOwnFirstBoxes : List Str := ["tape", "lives", "found", "number", "life", "taken", "less", "box"]
theorem scOwnFirstBoxes : FnScope nOwnFirstBoxes ["tape"] (defScope sOwnFirstBoxes) := ⟨rfl, rfl, rfl, by decide +kernel, rfl, by decide +kernel, by decide +kernel⟩
def POwnFirstBoxes : PD := fun rs Qd _ => ∃ t : Tape, t.Ok ∧ rs = [.da t.enc] ∧ Qd (.list (t.boxes.map natD))
theorem c_own_first_boxes (T : TxtF K mg "own_first_boxes" sOwnFirstBoxes ["tape"]) (B : Blt mg) (c_own_lives : CalG P w K mg base false 2 "own_lives" ["tape"] (spD K xf POwnLives)) (c_do_overlap : CalG P w K mg base false 1 "do_overlap" ["one", "other"] (spD K xf PDoOverlap)) : CalG P w K mg base false 3 "own_first_boxes" ["tape"] (spD K xf POwnFirstBoxes) := by
  have m_enumerate := B.enumerate
  have m_range := B.range
  refine T.okD (xf := xf) (k := 2) scOwnFirstBoxes (fun rs Qd Ed hp => ?_) fun f cdv A outer s H Hd E rs Qd Ed hr hgd xw hp => ?_
  · obtain ⟨t, _, rfl, _⟩ := hp; rfl
  refine ⟨_, (ss_cons (s_parC (is := [1, 2]) (ps_asg (pe_tup (a_cons (q_call xw (pe_gc c_own_lives hr (by decide) (fun z => nomatch z) (by rfl) (takes_of rfl rfl rfl rfl) (a_cons (q_var (pv 0)) a_nil))) (a_cons (q_lst a_nil) a_nil))) (pg_tup rfl (pgs_cons (pg_name (i := 1) scOwnFirstBoxes.nd rfl (by first | exact .inl rfl | exact .inr rfl)) (pgs_cons (pg_name (i := 2) scOwnFirstBoxes.nd rfl (by first | exact .inl rfl | exact .inr rfl)) pgs_nil))))) (ss_cons (s_for (ps_for (passes_of rfl) rfl (i_enum rfl (pi_enumA (by rfl) m_enumerate (a_cons (q_var (pv 1)) a_nil))) (g_tup (n := 2) rfl rfl (g_cons (g_name (pg_name (i := 3) scOwnFirstBoxes.nd rfl (by first | exact .inl rfl | exact .inr rfl))) (g_cons (g_name (pg_name (i := 4) scOwnFirstBoxes.nd rfl (by first | exact .inl rfl | exact .inr rfl))) g_nil))) (ss_cons (s_setDc (is := [6]) (js := [6]) (by decide) (XV.ps_setDc (i := 5) (own := [("less", 6)]) rfl scOwnFirstBoxes.nd rfl rfl (XV.sw_dict rfl rfl rfl (by decide +kernel)) (i_rng1 (pi_range1 rfl m_range (a_cons (q_var (pv 3)) a_nil))) (blkOk_by (N := nOwnFirstBoxes) (sc := defScope sOwnFirstBoxes) (by decide +kernel)) (fun _ _ _ _ _ => (g_name (pg_name (i := 6) scOwnFirstBoxes.nd rfl (by first | exact .inl rfl | exact .inr rfl)))) (fun _ _ _ _ _ => pts_one (t_val (q_call (xw0 (xf := xf)) (pe_gc0 c_do_overlap hr (by decide) (fun z => nomatch z) (by rfl) (a_cons (q_ixV rfl (pe_ix ix_seq (pv 1) (q_var (pv 6)) (fun _ _ => rfl))) (a_cons (q_var (pv 4)) a_nil)))))) (fun _ _ _ _ _ => (q_ixV rfl (pe_ix ix_seq (pv 2) (q_var (pv 6)) (fun _ _ => rfl)))) (fun _ _ _ _ _ => q_bl))) (ss_cons (s_set (ps_set (i := 7) scOwnFirstBoxes.nd rfl (by first | exact .inl rfl | exact .inr rfl) q_int)) (ss_cons (s_while (ps_while (passes_of rfl) (t_inV (pt_cmp (pc_din (hu_of hr) (q_var (pv 7)) (pv 5)))) (ss_one (s_augI (ps_aug (i := 7) scOwnFirstBoxes.nd rfl (by first | exact .inl rfl | exact .inr rfl) q_int ip_add))))) (ss_one (s_expr (q_app (pe_bm PySem.F.plainAttrs_list PySem.F.slot_list_append PySem.F.type_list_append mt_append (pv 2) (a_cons (q_var (pv 7)) a_nil)))))))))) (ss_one (s_ret (q_var (pv 2)))))), ?_⟩
  obtain ⟨t, ok, rfl, q⟩ := hp
  have h64 : t.rows.length ≤ 400 := ok.rl
  (conv => whnf)
  refine ⟨t, ok, rfl, ?_⟩
  rw [encL_pairs, List.map_map]
  (conv => whnf)
  have gl : ∀ j, j < t.rows.length → (t.lives.map (PyData.list ∘ lifeL))[j]? = some (.list (lifeL (t.lives.getD j (0, 0)))) := fun j hj => by
    have hj : j < t.lives.length := by rw [lives_length]; exact hj
    rw [List.getElem?_map, List.getD_eq_getElem?_getD, List.getElem?_eq_getElem hj]; rfl
  refine forGo_enum (fun n rest ρ => ∃ a b c d e, n ≤ t.rows.length ∧ ρ = [.da t.enc, .da (.list (t.lives.map (PyData.list ∘ lifeL))), .ow (.l ((grd t.lives n).map natD)), a, b, c, d, e] ∧ t.lives.drop n = rest) ?_ ?_ _ _ _ ⟨_, _, _, _, _, Nat.zero_le _, rfl, rfl⟩
  · rintro n p rest ρ W hW ⟨a, b, c, d, e, -, rfl, hd⟩
    have hn : t.lives[n]? = some p := by have z := congrArg (·[0]?) hd; simpa using z
    have hn2 : n < t.rows.length := by rw [← lives_length]; exact (List.getElem?_eq_some_iff.mp hn).1
    have ep : t.lives.getD n (0, 0) = p := by rw [List.getD_eq_getElem?_getD, hn]; rfl
    (conv => whnf)
    refine cnd_t (ble_t (by simp only [Int.natAbs_natCast]; omega)) ?_
    (conv => whnf)
    refine cnd_t (szle (by rw [rgS_len, Int.toNat_natCast]; omega)) ?_
    refine dcGo_rng (ρ := [_, _, _, _, _, _, _, _]) (fun j => if lat t.lives n j then some (.inl ((grd t.lives n).getD j 0 : Nat), .bool true) else none) (fun j hj acc W hW => ?_) ?_
    · have hj : j < n := by rw [Int.toNat_natCast] at hj; exact hj
      (conv => whnf)
      refine someQ_of (atD_nat (k := j) (by omega) (gl j (by omega))) ?_
      (conv => whnf)
      refine ⟨_, p, rfl, ?_⟩
      have eo : ovl (t.lives.getD j (0, 0)) p = lat t.lives n j := by rw [← ovl_lat hj hn2, ep]
      rw [eo]
      (conv => whnf)
      refine cnd_of (fun c => ?_) fun c => ?_
      · rw [c, if_pos rfl] at hW
        have gj : ((grd t.lives n).map natD)[j]? = some (natD ((grd t.lives n).getD j 0)) := by
          have : j < (grd t.lives n).length := by rw [grd_length]; exact hj
          rw [List.getElem?_map, List.getD_eq_getElem?_getD, List.getElem?_eq_getElem this]; rfl
        (conv => whnf)
        refine someQ_of (atD_nat (k := j) (by omega) gj) ?_
        (conv => whnf)
        exact hW
      · rw [c, if_neg Bool.false_ne_true] at hW
        (conv => whnf)
        exact hW
    · rw [Int.toNat_natCast]
      have hk : ∀ b : Nat, hasK ((List.range n).foldl (fun a x => addK a (if lat t.lives n x then some (.inl ((grd t.lives n).getD x 0 : Nat), .bool true) else none)) []) (.inl (b : Int)) = (takenAt t.lives (grd t.lives n) n).contains b := by
        intro b
        rw [hasK_fold, Bool.eq_iff_iff, Bool.or_eq_true, List.any_eq_true, List.contains_iff_mem, takenAt_mem]
        constructor
        · rintro (h | ⟨l, hl, h⟩)
          · cases h
          · cases c : lat t.lives n l with
            | true =>
              rw [c, if_pos rfl] at h
              have h := of_decide_eq_true h
              injection h with h
              exact ⟨l, List.mem_range.mp hl, c, by omega⟩
            | false => rw [c, if_neg Bool.false_ne_true] at h; cases h
        · rintro ⟨l, h1, h2, h3⟩
          refine .inr ⟨l, List.mem_range.mpr h1, ?_⟩
          rw [h2, if_pos rfl]
          exact decide_eq_true (by rw [h3])
      generalize (List.range n).foldl (fun a x => addK a (if lat t.lives n x then some (.inl ((grd t.lives n).getD x 0 : Nat), .bool true) else none)) [] = kvs at hk
      obtain ⟨m1, m2⟩ := mex_spec (takenAt t.lives (grd t.lives n) n)
      (conv => whnf)
      refine ⟨fun k ρ => ∃ bx : Nat, ρ = [.da t.enc, .da (.list (t.lives.map (PyData.list ∘ lifeL))), .ow (.l ((grd t.lives n).map natD)), .da (natD n), .da (.list (lifeL p)), .ow (.dk kvs), .un, .da (natD bx)] ∧ bx + k = mex (takenAt t.lives (grd t.lives n) n), ⟨_, 0, rfl, Nat.zero_add _⟩, ?_⟩
      rintro k ρ ⟨bx, rfl, hb⟩
      (conv => whnf)
      rw [getD'_has, hk]
      refine cnd_of (fun c => ?_) fun c => ?_
      · have c := List.contains_iff_mem.mp c
        have hb2 : bx ≠ mex (takenAt t.lives (grd t.lives n) n) := fun z => m1 (z ▸ c)
        (conv => whnf)
        exact ⟨k - 1, by omega, bx + 1, rfl, by omega⟩
      · have c : bx ∉ takenAt t.lives (grd t.lives n) n := fun z => by rw [List.contains_iff_mem.mpr z] at c; cases c
        have e : bx = mex (takenAt t.lives (grd t.lives n) n) := by
          rcases Nat.lt_or_ge bx (mex (takenAt t.lives (grd t.lives n) n)) with z | z
          · exact absurd (m2 _ z) c
          · omega
        (conv => whnf)
        refine ⟨by rw [List.length_map, grd_length, sizeLine_eq]; omega, ?_⟩
        have z : (grd t.lives (n + 1)).map natD = (grd t.lives n).map natD ++ [natD bx] := by rw [grd, List.map_append, ← e]; rfl
        exact hW _ ⟨_, _, _, _, _, hn2, by rw [z]; rfl, by rw [← List.drop_drop, hd]; rfl⟩
  · rintro n ρ ⟨a, b, c, d, e, hn, rfl, hd⟩
    have e : t.lives.length ≤ n := by
      rcases Nat.lt_or_ge n t.lives.length with z | z
      · rw [List.drop_eq_getElem_cons z] at hd; cases hd
      · exact z
    rw [lives_length] at e
    obtain rfl : n = t.rows.length := by omega
    exact q
abbrev sFirstBoxes : Stmt := topS 38
abbrev nFirstBoxes : List Str := ["tape"]
theorem scFirstBoxes : FnScope nFirstBoxes ["tape"] (defScope sFirstBoxes) := ⟨rfl, rfl, rfl, by decide +kernel, rfl, by decide +kernel, by decide +kernel⟩
def PFirstBoxes (xa : Str → Addr) : PD := fun rs Qd Ed => (∃ t : Tape, t.Ok ∧ rs = [.da t.enc] ∧ Qd (.tuple (t.boxes.map natD))) ∨ (∃ d p, (d, p) ∈ badT ∧ rs = [.da d] ∧ Ed (xa "BadTape") p)
theorem c_first_boxes (T : TxtF K mg "first_boxes" sFirstBoxes ["tape"]) (B : Blt mg) (c_need_tape : CalG P w K mg base false 5 "need_tape" ["tape"] (spD K xf (PNeedTape xa))) (c_own_first_boxes : CalG P w K mg base false 3 "own_first_boxes" ["tape"] (spD K xf POwnFirstBoxes)) : CalG P w K mg base false 6 "first_boxes" ["tape"] (spD K xf (PFirstBoxes xa)) := by
  have m_tuple := B.tuple
  refine T.okD (xf := xf) (k := 5) scFirstBoxes (fun rs Qd Ed hp => ?_) fun f cdv A outer s H Hd E rs Qd Ed hr hgd xw hp => ?_
  · rcases hp with ⟨t, _, rfl, _⟩ | ⟨d, p, _, rfl, _⟩ <;> rfl
  refine ⟨_, (ss_cons (s_expr (q_call xw (pe_gc c_need_tape hr (by decide) (fun z => nomatch z) (by rfl) (takes_of rfl rfl rfl rfl) (a_cons (q_var (pv 0)) a_nil)))) (ss_one (s_ret (q_b (n_tuple rfl) (pe_callTy call_tuple_of (by rfl) m_tuple PyProof.Rows.boot_tuple (a_cons (q_call xw (pe_gc c_own_first_boxes hr (by decide) (fun z => nomatch z) (by rfl) (takes_of rfl rfl rfl rfl) (a_cons (q_var (pv 0)) a_nil))) a_nil)))))), ?_⟩
  rcases hp with ⟨t, ok, rfl, q⟩ | ⟨d, p, hb, rfl, q⟩
  · (conv => whnf)
    refine .inl ⟨t, ok, rfl, ?_⟩
    (conv => whnf)
    refine ⟨t, ok, rfl, ?_⟩
    (conv => whnf)
    exact q
  · (conv => whnf)
    refine .inr ⟨d, p, hb, rfl, ?_⟩
    exact q
abbrev sBoxPaper : Stmt := topS 39
abbrev nBoxPaper : List Str := ["tape", "loads"]
theorem scBoxPaper : FnScope nBoxPaper ["tape"] (defScope sBoxPaper) := ⟨rfl, rfl, rfl, by decide +kernel, rfl, by decide +kernel, by decide +kernel⟩
def PBoxPaper (xa : Str → Addr) : PD := fun rs Qd Ed => (∃ t : Tape, t.Ok ∧ rs = [.da t.enc] ∧ ∀ mo, mo ≤ t.rows.length → loadN t.lives mo = t.peak → Qd (.tuple [.tuple (t.boxes.map natD), natD mo])) ∨ (∃ d p, (d, p) ∈ badT ∧ rs = [.da d] ∧ Ed (xa "BadTape") p)
theorem c_box_paper (T : TxtF K mg "box_paper" sBoxPaper ["tape"]) (B : Blt mg) (c_need_tape : CalG P w K mg base false 5 "need_tape" ["tape"] (spD K xf (PNeedTape xa))) (c_own_loads : CalG P w K mg base false 3 "own_loads" ["tape"] (spD K xf POwnLoads)) (c_own_first_boxes : CalG P w K mg base false 3 "own_first_boxes" ["tape"] (spD K xf POwnFirstBoxes)) : CalG P w K mg base false 6 "box_paper" ["tape"] (spD K xf (PBoxPaper xa)) := by
  have m_max := B.max
  have m_tuple := B.tuple
  refine T.okD (xf := xf) (k := 5) scBoxPaper (fun rs Qd Ed hp => ?_) fun f cdv A outer s H Hd E rs Qd Ed hr hgd xw hp => ?_
  · rcases hp with ⟨t, _, rfl, _⟩ | ⟨d, p, _, rfl, _⟩ <;> rfl
  refine ⟨_, (ss_cons (s_expr (q_call xw (pe_gc c_need_tape hr (by decide) (fun z => nomatch z) (by rfl) (takes_of rfl rfl rfl rfl) (a_cons (q_var (pv 0)) a_nil)))) (ss_cons (s_set (ps_set (i := 1) scBoxPaper.nd rfl (by first | exact .inl rfl | exact .inr rfl) (q_call xw (pe_gc c_own_loads hr (by decide) (fun z => nomatch z) (by rfl) (takes_of rfl rfl rfl rfl) (a_cons (q_var (pv 0)) a_nil))))) (ss_one (s_ret (q_tup (a_cons (q_b (n_tuple rfl) (pe_callTy call_tuple_of (by rfl) m_tuple PyProof.Rows.boot_tuple (a_cons (q_call xw (pe_gc c_own_first_boxes hr (by decide) (fun z => nomatch z) (by rfl) (takes_of rfl rfl rfl rfl) (a_cons (q_var (pv 0)) a_nil))) a_nil))) (a_cons (q_idx rfl (pe_bm PySem.F.plainAttrs_list PySem.F.slot_list_index PySem.F.type_list_index mt_index (pv 1) (a_cons (q_b n_max (pe_callB (cr_max rfl) (by rfl) m_max PyProof.Rows.boot_max (a_cons (q_var (pv 1)) a_nil))) a_nil))) a_nil))))))), ?_⟩
  rcases hp with ⟨t, ok, rfl, q⟩ | ⟨d, p, hb, rfl, q⟩
  · (conv => whnf)
    refine .inl ⟨t, ok, rfl, ?_⟩
    (conv => whnf)
    refine ⟨t, ok, rfl, ?_⟩
    (conv => whnf)
    refine ⟨t, ok, rfl, ?_⟩
    (conv => whnf)
    refine ⟨_, natD_map _, by rw [List.length_map, loads_length]; omega, fun m h1 h2 => ?_⟩
    rw [max_is loads_ne h1 h2]
    (conv => whnf)
    refine ⟨⟨rfl, by rw [List.all_map]; exact List.all_eq_true.mpr fun _ _ => rfl⟩, ?_⟩
    obtain ⟨j, hj, e1, e2⟩ := idx_of (ls := t.loads) (maxN_mem loads_ne)
    refine someQ_of e1 ?_
    rw [loads_length] at hj
    refine q j (by omega) ?_
    unfold Tape.loads at e2
    rw [List.getElem?_map, List.getElem?_range hj] at e2
    exact Option.some.inj e2
  · (conv => whnf)
    refine .inr ⟨d, p, hb, rfl, ?_⟩
    exact q
abbrev sCheckBoxes : Stmt := topS 40
abbrev nCheckBoxes : List Str := ["tape", "paper"]
theorem scCheckBoxes : FnScope nCheckBoxes ["tape", "paper"] (defScope sCheckBoxes) := ⟨rfl, rfl, rfl, by decide +kernel, rfl, by decide +kernel, by decide +kernel⟩
def PCheckBoxes (xa : Str → Addr) : PD := fun rs Qd Ed => (∃ t : Tape, ∃ d, t.Ok ∧ rs = [.da t.enc, .da d] ∧ (match t.due d with | .many n => Qd (natD n) | .bad p => Ed (xa "BadPaper") p)) ∨ (∃ d p d2, (d, p) ∈ badT ∧ rs = [.da d, .da d2] ∧ Ed (xa "BadTape") p)
theorem c_check_boxes (T : TxtF K mg "check_boxes" sCheckBoxes ["tape", "paper"]) (B : Blt mg) (c_need_tape : CalG P w K mg base false 5 "need_tape" ["tape"] (spD K xf (PNeedTape xa))) (c_wrong_boxes : CalG P w K mg base false 3 "wrong_boxes" ["tape", "thing"] (spD K xf PWrongBoxes)) (c_is_whole : CalG P w K mg base false 1 "is_whole" ["thing", "least", "most"] (spD K xf PIsWhole)) (c_own_loads : CalG P w K mg base false 3 "own_loads" ["tape"] (spD K xf POwnLoads)) (x_BadPaper : XC P w K mg base xf "BadPaper" (xa "BadPaper") "place") : CalG P w K mg base false 6 "check_boxes" ["tape", "paper"] (spD K xf (PCheckBoxes xa)) := by
  have m_len := B.len
  have m_isinstance := B.isinstance
  have m_tuple := B.tuple
  have m_set := B.set
  refine T.okD (xf := xf) (k := 5) scCheckBoxes (fun rs Qd Ed hp => ?_) fun f cdv A outer s H Hd E rs Qd Ed hr hgd xw hp => ?_
  · rcases hp with ⟨t, _, _, rfl, _⟩ | ⟨d, p, _, _, rfl, _⟩ <;> rfl
  refine ⟨_, (ss_cons (s_expr (q_call xw (pe_gc c_need_tape hr (by decide) (fun z => nomatch z) (by rfl) (takes_of rfl rfl rfl rfl) (a_cons (q_var (pv 0)) a_nil)))) (ss_cons (s_if (t_w (w_or (t_not (t_val (q_isi rfl (fun _ _ _ _ h => k_tuple h) (pe_callB call_isi (by rfl) m_isinstance PyProof.Rows.boot_isinstance (pa_cons (q_var (pv 1)) (pa_cons (pe_bltn (by rfl) m_tuple PyProof.Rows.boot_tuple rfl) pa_nil)))))) (w_or1 (t_bin (o_ne rfl) (pt_cmpR (op_neU hr.units) (q_lenV rfl (pe_callB call_len (by rfl) m_len PySem.boot_len (pa_cons (pv 1) pa_nil))) q_int (nomark _)))))) (ss_one (s_raise xw x_BadPaper.xf rfl (takes_of rfl rfl rfl rfl) (pmk_c x_BadPaper (hr.mono (by decide)) (by rfl) q_non))) ss_nil) (ss_cons (s_if (t_bin (o_ne rfl) (pt_cmpR (op_neU hr.units) (q_call xw (pe_gc c_wrong_boxes hr (by decide) (fun z => nomatch z) (by rfl) (takes_of rfl rfl rfl rfl) (a_cons (q_var (pv 0)) (a_cons (q_ixV rfl (pe_ix ix_seq (pv 1) q_int (fun _ _ => rfl))) a_nil)))) (q_lst a_nil) (nomark _))) (ss_one (s_raise xw x_BadPaper.xf rfl (takes_of rfl rfl rfl rfl) (pmk_c x_BadPaper (hr.mono (by decide)) (by rfl) q_str))) ss_nil) (ss_cons (s_if (t_not (t_val (q_call xw (pe_gc c_is_whole hr (by decide) (fun z => nomatch z) (by rfl) (takes_of rfl rfl rfl rfl) (a_cons (q_ixV rfl (pe_ix ix_seq (pv 1) q_int (fun _ _ => rfl))) (a_cons q_int (a_cons (q_b (n_len rfl) (pe_callB call_len (by rfl) m_len PySem.boot_len (a_cons (q_ixV rfl (pe_ix ix_seq (pv 0) q_int (fun _ _ => rfl))) a_nil))) a_nil))))))) (ss_one (s_raise xw x_BadPaper.xf rfl (takes_of rfl rfl rfl rfl) (pmk_c x_BadPaper (hr.mono (by decide)) (by rfl) q_str))) ss_nil) (ss_cons (s_if (t_bin (o_ne rfl) (pt_cmpR (op_neU hr.units) (q_lenSet rfl (XV.pe_lenSetA (by rfl) m_len (by rfl) m_set (q_ixV rfl (pe_ix ix_seq (pv 1) q_int (fun _ _ => rfl))))) (q_bin (o_ix rfl) (pe_ix ix_seq (q_call xw (pe_gc c_own_loads hr (by decide) (fun z => nomatch z) (by rfl) (takes_of rfl rfl rfl rfl) (a_cons (q_var (pv 0)) a_nil))) (q_ixV rfl (pe_ix ix_seq (pv 1) q_int (fun _ _ => rfl))) (fun _ _ => rfl))) (nomark _))) (ss_one (s_raise xw x_BadPaper.xf rfl (takes_of rfl rfl rfl rfl) (pmk_c x_BadPaper (hr.mono (by decide)) (by rfl) q_str))) ss_nil) (ss_one (s_ret (q_lenSet rfl (XV.pe_lenSetA (by rfl) m_len (by rfl) m_set (q_ixV rfl (pe_ix ix_seq (pv 1) q_int (fun _ _ => rfl)))))))))))), ?_⟩
  rcases hp with ⟨t, d, ok, rfl, q⟩ | ⟨d, p, d2, hb, rfl, q⟩
  · have h64 : t.rows.length ≤ 400 := ok.rl
    (conv => whnf)
    refine .inl ⟨t, ok, rfl, ?_⟩
    cases d with
    | tuple ds =>
      match ds, q with
      | [], q => exact q
      | [_], q => exact q
      | a :: b :: c :: r, q => (conv => whnf); exact q
      | [bx, mo], q =>
        (conv => whnf)
        refine ⟨t, bx, ok, rfl, ?_⟩
        have s := wrongB_shape (t := t) (d := bx)
        cases ew : t.wrongB bx with
        | cons x r =>
          rw [due_boxes ew] at q
          rw [ew] at s
          cases s with
          | non => (conv => whnf); exact ⟨rfl, rfl, q⟩
          | «at» n => (conv => whnf); exact ⟨rfl, rfl, q⟩
          | two l n => (conv => whnf); exact ⟨rfl, rfl, q⟩
        | nil =>
          obtain ⟨ds, rfl, hl, all, cl⟩ := wrongB_nil ew
          (conv => whnf)
          refine ⟨rfl, rfl, ?_⟩
          (conv => whnf)
          refine cnd_of (fun c => ?_) fun c => ?_
          · have c := not_t c
            rw [List.length_map] at c
            rw [due_moment ew (show momOk t.rows.length mo = false from (by cases mo <;> rfl : momOk t.rows.length mo = wholeD mo 0 (t.rows.length : Nat)).trans c)] at q
            exact q
          · have c := not_f c
            obtain ⟨i, rfl, c1, c2⟩ := whole_t c
            rw [List.length_map] at c2 c
            rw [due_at ew c] at q
            have ei := boxes_ints all
            clear ew s all cl
            generalize ds.map intOf = is at ei q
            subst ei
            rw [List.length_map] at hl
            (conv => whnf)
            refine ⟨is, rfl, by omega, ?_⟩
            (conv => whnf)
            refine ⟨t, ok, rfl, ?_⟩
            (conv => whnf)
            have gi : (t.loads.map natD)[i.toNat]? = some (natD (loadN t.lives i.toNat)) := by
              unfold Tape.loads
              rw [List.map_map, List.getElem?_map, List.getElem?_range (by omega)]; rfl
            refine someQ_of (atD_nat (k := i.toNat) (by omega) gi) ?_
            (conv => whnf)
            refine cnd_of (fun c => ?_) fun c => ?_
            · have n : XV.cardI is ≠ loadN t.lives i.toNat := fun z => by
                rw [z] at c
                have c := not_t c
                exact absurd rfl (of_decide_eq_false c)
              rw [if_neg n] at q
              exact q
            · have n : XV.cardI is = loadN t.lives i.toNat := by
                have c := of_decide_eq_true (not_f c)
                omega
              rw [if_pos n] at q
              exact ⟨is, rfl, by omega, q⟩
    | _ => exact q
  · (conv => whnf)
    refine .inr ⟨d, p, hb, rfl, ?_⟩
    exact q
end
end K81

-- DL17
set_option autoImplicit true
namespace DL
open PySem PySem.Spec PyProof.Rows L2
/-! ### the draws -/
theorem g_left {l c t : Int} : valV ([(.inr "left", .int l), (.inr "cell", .int c), (.inr "turns", .int t)] : List (Key × V)) (.inr "left") = some (.int l) := by rfl
theorem g_cell {l c t : Int} : valV ([(.inr "left", .int l), (.inr "cell", .int c), (.inr "turns", .int t)] : List (Key × V)) (.inr "cell") = some (.int c) := by rfl
theorem g_turns {l c t : Int} : valV ([(.inr "left", .int l), (.inr "cell", .int c), (.inr "turns", .int t)] : List (Key × V)) (.inr "turns") = some (.int t) := by rfl
theorem p_left {l c t x : Int} : putK ([(.inr "left", .int l), (.inr "cell", .int c), (.inr "turns", .int t)] : List (Key × V)) (.inr "left") (.int x) = [(.inr "left", .int x), (.inr "cell", .int c), (.inr "turns", .int t)] := by rfl
theorem p_turns {l c t x : Int} : putK ([(.inr "left", .int l), (.inr "cell", .int c), (.inr "turns", .int t)] : List (Key × V)) (.inr "turns") (.int x) = [(.inr "left", .int l), (.inr "cell", .int c), (.inr "turns", .int x)] := by rfl
def spMixed : Sp := fun vs H Q _ => ∃ c k : Int, vs = [.int c, .int k] ∧ 0 ≤ k ∧ k ≤ 1000000000000 ∧ ∀ r H', 0 ≤ r → r < 2147483647 → Same H H' → Q (.int r) H'
def spDraw : Sp := fun vs H Q _ => ∃ c k : Int, vs = [.int c, .int k] ∧ 0 ≤ k ∧ k ≤ 1000 ∧ ∀ l p H', H p = none → Same H H' → H' p = some (dSt l c (1000 * k)) → Q (.ref p) H'
def spDigit : Sp := fun vs H Q _ => ∃ (d : Addr) (l c t b : Int), vs = [.ref d, .int b] ∧ H d = some (dSt l c t) ∧ 0 ≤ t ∧ t ≤ 100000000000 ∧ 0 < b ∧ b < 1000000000 ∧
  ∀ r l' t' H', 0 ≤ r → r < b → t ≤ t' → t' ≤ t + 4 → H' d = some (dSt l' c t') → (∀ a o, a ≠ d → H a = some o → H' a = some o) → Q (.int r) H'
theorem same_new {H : Hp} {p : Addr} {o : HO} (h : H p = none) : Same H (upd H p o) := fun b x e => by rw [upd_ne (ne_of_none e h)]; exact e
section
variable {P : Program} {w : World} {K : PySem.W.Frag} {mg : Str → Option Value} {base : Heap} {k : Nat} {f : Addr} {fd : FuncData} {ps : List Str}
theorem FnG.of0 {sp : Sp} (F : FnOk P w K mg base CX0 k f fd ps sp) : FnG P w K mg base (L2.CX P w) false k f fd ps sp := ⟨F.len, fun A outer s H args us vs Q E hr _ he hb hv hs => codeAny_mono (F.run A outer s H args us vs Q E hr he hb hv hs) fun r s' h => by
  cases r with
  | error e => exact False.elim h
  | ok fl => cases fl <;> exact h⟩
/-- a draw: the state is lent -/
def PDigit : PB := fun o rs Qd _ => ∃ (n : Nat) (b : Int), o = .st n ∧ rs = [.da (.int b)] ∧ n ≤ 10000000000 ∧ 0 < b ∧ b < 1000000000 ∧ ∀ r : Int, 0 ≤ r → r < b → Qd (.int r) (.st (n + 4))
theorem digit_b {xf : XT} (F : FnG P w K mg base (L2.CX P w) false k f fd ps spDigit) : FnG P w K mg base (L2.CX P w) false k f fd ps (spB K xf PDigit) := F.imp fun vs H Q E ⟨Hd, o, a, vs', rs, Qd, Ed, ev, sb, tb, ow, na, ar, hq, n, b, eo, er, hn, h0, h1, q⟩ => by
  subst ev eo er
  match vs', ar with
  | [v], ⟨hv, _⟩ =>
    obtain rfl : v = .int b := dp_int hv
    obtain ⟨a', l, c, t, e1, e2, e3, t0, t1⟩ := ow
    cases e1
    refine ⟨a, l, c, t, b, rfl, e3, t0, by omega, h0, h1, fun r l' t' H' r0 r1 u0 u1 hd kp => ?_⟩
    refine hq _ _ _ Hd H' (q r r0 r1) ⟨Sub.refl _, fun x u tu e => ?_, fun x u tu hx e => kp x u (by simpa using hx) e, fun _ _ _ _ => rfl, tabs_upd tb fun x => ?_⟩ ⟨a, l', c, t', rfl, rfl, hd, by omega, by omega⟩ (.int r)
    · exact kp x u (fun z => na u tu (z ▸ e)) (sb x u tu e)
    · by_cases hx : x = a
      · subst hx; exact .inr fun o e => by rw [e3] at e; cases e; rfl
      · cases q : H x with
        | none => exact .inr fun o e => by cases e
        | some o => exact .inl (kp x o hx q)
end
section
variable {X : Cx} {C : DC} {e : Expr} {ta : TDA}
/-- a new state of draws -/
def dDraw (ta : TDA) : TD := fun ρ Q => ta ρ fun rs ρ1 => match rs with
  | [.da (.int c), .da (.int k)] => (0 ≤ k ∧ k ≤ 1000) ∧ Q (.ow (.st (1000 * k.toNat))) ρ1
  | _ => False
theorem q_draw (h : PE X e (tCall spDraw [] E0 (LA C ta))) : PE X e (LE C (dDraw ta)) := imp_e h fun σ H Q ⟨Hd, ρ, vs, ss, Qd, E0, k, q⟩ => by
  refine ⟨Hd, ρ, vs, ss, _, E0, fun rs ρ1 ws Hd1 H1 q1 l E1 => ?_, q⟩
  show spDraw (ws ++ []) H1 Q _
  rw [List.append_nil]
  split at q1
  · rename_i c n
    match ws, l with
    | [v, w], _ =>
      have E2 : En C Hd1 H1 σ ρ1 (v :: w :: vs) (.da (.int c) :: .da (.int n) :: ss) := E1
      cases dp_int E2.top
      cases dp_int E2.drop.top
      refine ⟨c, n, rfl, q1.1.1, q1.1.2, fun l p H' np sm hp => ?_⟩
      -- all but p has grown
      have E3 := E2.drop.drop
      have E4 : En C Hd1 (upd H1 p (dSt l c (1000 * n))) σ ρ1 (.ref p :: vs) (.ow (.st (1000 * n.toNat)) :: ss) := E3.newO np ⟨p, l, c, 1000 * n, rfl, rfl, upd_same, by omega, by omega⟩
      have s2 : Sub (upd H1 p (dSt l c (1000 * n))) H' := fun x u t e => by
        by_cases hx : x = p
        · subst hx; rw [upd_same] at e; cases e; exact hp
        · rw [upd_ne hx] at e; exact sm x u e
      exact k _ _ _ _ _ q1.2 (E4.grow (Sub.refl _) s2 (E4.sub.trans s2) (fun _ _ _ _ => rfl) (E3.tabs.ext sm))
  · exact q1.elim
end
end DL

-- DL18
set_option autoImplicit true
namespace DL
open PySem PySem.Spec PyProof.Rows L2
/-! ### comprehensions that change slots -/
theorem lcGo_ind {α : Type} {g : TDG} {tt : TDT} {te : TD} {is : List Nat} {k : List D → Rho → Prop} {f : α → Sl} (I : List α → List D → Rho → Prop)
    (step : ∀ x xs acc ρ (W : List D → Rho → Prop), (∀ acc' ρ', I xs acc' ρ' → W acc' ρ') → I (x :: xs) acc ρ → g (f x) (wipeR ρ is) fun ρ2 => tt ρ2 fun b ρ3 => cnd b (te ρ3 fun s ρ4 => match s.toD with
      | some d => W (acc ++ [d]) (wipeR ρ4 is)
      | none => False) (W acc (wipeR ρ3 is)))
    (fin : ∀ acc ρ, I [] acc ρ → k acc ρ) : ∀ (xs : List α) (acc : List D) (ρ : Rho), I xs acc ρ → lcGo g tt te is k (xs.map f) acc ρ
  | [], acc, ρ, h => fin acc ρ h
  | x :: xs, acc, ρ, h => step x xs acc ρ (fun acc ρ => lcGo g tt te is k (xs.map f) acc ρ) (fun acc' ρ' h' => lcGo_ind I step fin xs acc' ρ' h') h
theorem lcGo_indR {g : TDG} {tt : TDT} {te : TD} {is : List Nat} {k : List D → Rho → Prop} {lo : Int} {n : Nat} (I : Nat → List D → Rho → Prop)
    (step : ∀ j acc ρ (W : List D → Rho → Prop), j < n → (∀ acc' ρ', I (j + 1) acc' ρ' → W acc' ρ') → I j acc ρ → g (.da (.int (lo + (j : Nat)))) (wipeR ρ is) fun ρ2 => tt ρ2 fun b ρ3 => cnd b (te ρ3 fun s ρ4 => match s.toD with
      | some d => W (acc ++ [d]) (wipeR ρ4 is)
      | none => False) (W acc (wipeR ρ3 is)))
    (fin : ∀ acc ρ, I n acc ρ → k acc ρ) {ρ : Rho} (h : I 0 [] ρ) : lcGo g tt te is k (rgS lo n) [] ρ := by
  have key : ∀ m j acc ρ, j + m = n → I j acc ρ → lcGo g tt te is k ((List.range' j m).map fun j => Sl.da (.int (lo + (j : Nat)))) acc ρ := by
    intro m
    induction m with
    | zero => intro j acc ρ e i; exact fin acc ρ (by rw [← e]; exact i)
    | succ m ih => intro j acc ρ e i; exact step j acc ρ _ (by omega) (fun acc' ρ' i' => ih (j + 1) acc' ρ' (by omega) i') i
  have z := key n 0 [] ρ (by omega) h
  rw [← List.range_eq_range'] at z
  exact z
/-- a comprehension without ifs, its function found by unification -/
theorem lcGo_map1 {α : Type} {g : TDG} {tt : TDT} {te : TD} {is : List Nat} {k : List D → Rho → Prop} {f : α → Sl} {ρ : Rho} (F : α → D) (xs : List α)
    (step : ∀ x ∈ xs, ∀ acc (W : List D → Rho → Prop), W (acc ++ [F x]) ρ → g (f x) (wipeR ρ is) fun ρ2 => tt ρ2 fun b ρ3 => cnd b (te ρ3 fun s ρ4 => match s.toD with
    | some d => W (acc ++ [d]) (wipeR ρ4 is)
    | none => False) (W acc (wipeR ρ3 is))) (h : k (xs.map F) ρ) : lcGo g tt te is k (xs.map f) [] ρ :=
  lcGo_map (fun x => some (F x)) xs [] (fun x hx acc W hW => step x hx acc W hW) (by rw [List.nil_append, List.filterMap_eq_map']; exact h)
theorem lcGo_rng1 {g : TDG} {tt : TDT} {te : TD} {is : List Nat} {k : List D → Rho → Prop} {lo : Int} {n : Nat} {ρ : Rho} (F : Nat → D)
    (step : ∀ j < n, ∀ acc (W : List D → Rho → Prop), W (acc ++ [F j]) ρ → g (.da (.int (lo + (j : Nat)))) (wipeR ρ is) fun ρ2 => tt ρ2 fun b ρ3 => cnd b (te ρ3 fun s ρ4 => match s.toD with
    | some d => W (acc ++ [d]) (wipeR ρ4 is)
    | none => False) (W acc (wipeR ρ3 is))) (h : k ((List.range n).map F) ρ) : lcGo g tt te is k (rgS lo n) [] ρ :=
  lcGo_map1 F (List.range n) (fun j hj => step j (List.mem_range.mp hj)) h
end DL
namespace DL
open PySem PySem.Spec PyProof.Rows L2
/-! ### a list that is not changed any more -/
def dFz (te : TD) : TD := fun ρ Q => te ρ fun s ρ1 => match s with
  | .ow o => match o.fr with
    | some d => Q (.da d) ρ1
    | none => Q (.ow o) ρ1
  | s => Q s ρ1
section
variable {X : Cx} {C : DC} {e : Expr} {te : TD}
theorem fz_le {σ : L2.St} {H : Hp} {Q : VK} (h : LE C (dFz te) σ H Q) : LE C te σ H Q := by
  obtain ⟨Hd, ρ, vs, ss, Qd, E, k, q⟩ := h
  refine ⟨Hd, ρ, vs, ss, _, E, fun s ρ1 v Hd1 H1 q1 E1 => ?_, q⟩
  cases s with
  | ow o =>
    dsimp only at q1
    cases ho : o.fr with
    | none => rw [ho] at q1; exact k _ _ _ _ _ q1 E1
    | some d =>
      rw [ho] at q1
      obtain ⟨Hd2, _, E2⟩ := E1.fz (d := d) ho
      exact k _ _ _ _ _ q1 E2
  | un => exact k _ _ _ _ _ q1 E1
  | da d => exact k _ _ _ _ _ q1 E1
  | va v => exact k _ _ _ _ _ q1 E1
  | vs v => exact k _ _ _ _ _ q1 E1
  | bo o => exact k _ _ _ _ _ q1 E1
theorem q_fz (h : PE X e (LE C te)) : PE X e (LE C (dFz te)) := imp_e h fun σ H Q q => fz_le q
theorem s_setLcF {st : Stmt} {i : Nat} {ti : TDI} {g : TDG} {tt : TDT} {te : TD} {is js : List Nat} (hs : ∀ i ∈ js, i ∈ is) (h : PS X st (tAsg (tLc (LI C ti) (LG C js g) (LT C tt) (LE C te) is) (gName i))) : PS X st (LS C (sAsg (dFz (dLc ti g tt te is)) (dgName i))) :=
  imp_s h fun D σ H q => asg_le (fun _ q => lc_le hs (fz_le q)) q
end
end DL
namespace DL
open PySem PySem.Spec PyProof.Rows L2
/-! ### one step, no further -/
theorem seq_i {t u : TDS} {D : EndsD} {ρ : Rho} (h : t { D with nx := u D } ρ) : sSeq t u D ρ := h
theorem asg_i {te : TD} {g : TDG} {D : EndsD} {ρ : Rho} (h : te ρ fun s ρ1 => g s ρ1 D.nx) : sAsg te g D ρ := h
theorem te_i {te : TD} {ρ : Rho} {K : Sl → Rho → Prop} (s : Sl) (ρ' : Rho) (h : ∀ Q : Sl → Rho → Prop, Q s ρ' → te ρ Q) (k : K s ρ') : te ρ K := h _ k
theorem g_i {g : TDG} {s : Sl} {ρ : Rho} {K : Rho → Prop} (ρ' : Rho) (h : ∀ Q : Rho → Prop, Q ρ' → g s ρ Q) (k : K ρ') : g s ρ K := h _ k
theorem for_i {ti : TDI} {g : TDG} {tb : TDS} {D : EndsD} {ρ : Rho} (its : List Sl) (ρ' : Rho) (h : ∀ Q : List Sl → Rho → Prop, Q its ρ' → ti ρ Q) (k : forGo g tb D its ρ') : sFor ti g tb D ρ := h _ k
/-- x = e; .. -/
theorem set_i {te : TD} {g : TDG} {u : TDS} {D : EndsD} {ρ : Rho} (s : Sl) (ρ' ρ2 : Rho) (h : ∀ Q : Sl → Rho → Prop, Q s ρ' → te ρ Q) (h2 : ∀ Q : Rho → Prop, Q ρ2 → g s ρ' Q) (k : u D ρ2) : sSeq (sAsg te g) u D ρ := h (fun s ρ1 => g s ρ1 (u D)) (h2 _ k)
end DL
namespace DL
open PySem PySem.Spec PyProof.Rows L2
/-! ### cuts: what holds between two statements -/
theorem seq_x {t u : TDS} {D : EndsD} {ρ : Rho} (P : Rho → Prop) (h : ∀ N : Rho → Prop, (∀ ρ', P ρ' → N ρ') → t { D with nx := N } ρ) (k : ∀ ρ', P ρ' → u D ρ') : sSeq t u D ρ := h _ k
theorem for_x {ti : TDI} {g : TDG} {tb : TDS} {D : EndsD} {ρ : Rho} (P : List Sl → Rho → Prop) (h : ∀ Q : List Sl → Rho → Prop, (∀ its ρ', P its ρ' → Q its ρ') → ti ρ Q) (k : ∀ its ρ', P its ρ' → forGo g tb D its ρ') : sFor ti g tb D ρ := h _ k
end DL

-- TR
set_option autoImplicit true
namespace TP
open PySem PySem.Spec PyProof.Rows L2 DL
/-! ### ratios -/
/-- a / b in lowest terms, below it a positive number -/
def ratN (a b : Int) : Int := (if b > 0 then 1 else -1) * a / (Nat.gcd a.natAbs b.natAbs : Nat)
def ratD (a b : Int) : Int := (if b > 0 then 1 else -1) * b / (Nat.gcd a.natAbs b.natAbs : Nat)
theorem gcd_pos' {a b : Int} (h : b ≠ 0) : 0 < Nat.gcd a.natAbs b.natAbs := Nat.gcd_pos_of_pos_right _ (Int.natAbs_pos.mpr h)
theorem rat_num (a b : Int) : ratN a b * (Nat.gcd a.natAbs b.natAbs : Nat) = (if b > 0 then 1 else -1) * a := by
  unfold ratN
  apply Int.ediv_mul_cancel
  have : ((Nat.gcd a.natAbs b.natAbs : Nat) : Int) ∣ a := Int.natAbs_dvd_natAbs.mp (Nat.gcd_dvd_left _ _)
  exact Int.dvd_mul_of_dvd_right this
theorem rat_den (a b : Int) : ratD a b * (Nat.gcd a.natAbs b.natAbs : Nat) = (if b > 0 then 1 else -1) * b := by
  unfold ratD
  apply Int.ediv_mul_cancel
  have : ((Nat.gcd a.natAbs b.natAbs : Nat) : Int) ∣ b := Int.natAbs_dvd_natAbs.mp (Nat.gcd_dvd_right _ _)
  exact Int.dvd_mul_of_dvd_right this
theorem rat_pos {a b : Int} (h : b ≠ 0) : 0 < ratD a b := by
  have e := rat_den a b
  have g : (0 : Int) < (Nat.gcd a.natAbs b.natAbs : Nat) := by have := gcd_pos' (a := a) h; omega
  have s : 0 < (if b > 0 then 1 else -1) * b := by split <;> omega
  rw [← e] at s
  rcases Int.lt_or_le 0 (ratD a b) with z | z
  · exact z
  · have q := Int.mul_le_mul_of_nonneg_right z (Int.le_of_lt g)
    rw [Int.zero_mul] at q
    omega
theorem rat_eq {a b : Int} (h : b ≠ 0) : ratN a b * b = a * ratD a b := by
  have e1 := rat_num a b
  have e2 := rat_den a b
  have g : ((Nat.gcd a.natAbs b.natAbs : Nat) : Int) ≠ 0 := by have := gcd_pos' (a := a) h; omega
  apply Int.eq_of_mul_eq_mul_right g
  rw [Int.mul_right_comm, e1, Int.mul_assoc, Int.mul_assoc, e2]
  rw [Int.mul_left_comm]
theorem rat_gcd {a b : Int} (h : b ≠ 0) : Nat.gcd (ratN a b).natAbs (ratD a b).natAbs = 1 := by
  have e1 := congrArg Int.natAbs (rat_num a b)
  have e2 := congrArg Int.natAbs (rat_den a b)
  have s : ((if b > 0 then 1 else -1 : Int)).natAbs = 1 := by split <;> rfl
  rw [Int.natAbs_mul, Int.natAbs_mul, s, Nat.one_mul, Int.natAbs_natCast] at e1 e2
  have g := gcd_pos' (a := a) h
  have k : Nat.gcd ((ratN a b).natAbs * Nat.gcd a.natAbs b.natAbs) ((ratD a b).natAbs * Nat.gcd a.natAbs b.natAbs) = Nat.gcd a.natAbs b.natAbs := by rw [e1, e2]
  rw [Nat.gcd_mul_right] at k
  exact Nat.eq_of_mul_eq_mul_right g (by rw [k, Nat.one_mul])
theorem rat_le {a b : Int} (h : b ≠ 0) : (ratN a b).natAbs ≤ a.natAbs ∧ (ratD a b).natAbs ≤ b.natAbs := by
  have e1 := congrArg Int.natAbs (rat_num a b)
  have e2 := congrArg Int.natAbs (rat_den a b)
  have s : ((if b > 0 then 1 else -1 : Int)).natAbs = 1 := by split <;> rfl
  rw [Int.natAbs_mul, Int.natAbs_mul, s, Nat.one_mul, Int.natAbs_natCast] at e1 e2
  have g := gcd_pos' (a := a) h
  constructor
  · rw [← e1]; exact Nat.le_mul_of_pos_right _ g
  · rw [← e2]; exact Nat.le_mul_of_pos_right _ g
theorem log2_mono {a b : Nat} (h : a ≤ b) : a.log2 ≤ b.log2 := by
  by_cases ha : a = 0
  · subst ha; exact Nat.zero_le _
  · exact (Nat.le_log2 (by omega)).mpr (Nat.le_trans (Nat.log2_self_le ha) h)
/-! ### drawn tapes -/
theorem RowsOk.snoc {r : Row} : ∀ {rs : List Row} {v : Nat}, RowsOk v rs → r.Ok (v + rs.length) → RowsOk v (rs ++ [r])
  | [], v, _, h => ⟨h, trivial⟩
  | q :: rs, v, ⟨h1, h2⟩, h => ⟨h1, h2.snoc (by rw [show v + 1 + rs.length = v + (q :: rs).length by simp; omega]; exact h)⟩
/-- how tall a row's value is -/
def tallRow (ts : List Nat) : Row → Nat
  | .num _ _ => 1
  | .op _ [u] => ts.getD u 0
  | .op _ [u, w] => ts.getD u 0 + ts.getD w 0 + 1
  | _ => 0
def tallsR : List Nat → List Row → List Nat
  | ts, [] => ts
  | ts, r :: rs => tallsR (ts ++ [tallRow ts r]) rs
theorem tallsR_snoc {r : Row} : ∀ {rs : List Row} {ts : List Nat}, tallsR ts (rs ++ [r]) = tallsR ts rs ++ [tallRow (tallsR ts rs) r]
  | [], ts => rfl
  | q :: rs, ts => tallsR_snoc (rs := rs)
theorem tallsR_length : ∀ {rs : List Row} {ts : List Nat}, (tallsR ts rs).length = ts.length + rs.length
  | [], ts => rfl
  | q :: rs, ts => by rw [tallsR, tallsR_length]; simp; omega
def Row.small : Row → Prop
  | .num a b => a.natAbs ≤ 4 ∧ 0 < b ∧ b ≤ 3
  | _ => True
theorem natD_get {ts : List Nat} {j : Nat} (h : j < ts.length) : (ts.map natD)[j]? = some (natD (ts.getD j 0)) := by
  rw [List.getElem?_map, List.getD_eq_getElem?_getD, List.getElem?_eq_getElem h]; rfl
theorem atD_last {α : Type} {l : List α} {d : α} : atD (l ++ [d]) (-1) = some d := by
  show (if 0 < (l ++ [d]).length then (l ++ [d])[(l ++ [d]).length - 1 - 0]? else none) = _
  rw [if_pos (by simp)]
  simp
theorem int_nat {x : Int} (h : 0 ≤ x) : ∃ n : Nat, x = (n : Nat) := ⟨x.toNat, by omega⟩
/-- a tape as the laws draw it -/
structure Drawn (n m : Nat) (t : Tape) : Prop where
  ok : t.Ok
  tn : t.n = n
  rl : t.rows.length ≤ m
  ol : t.outs.length ≤ 3
  tall : ∀ x ∈ tallsR (List.replicate n 1) t.rows, x ≤ 59
  small : ∀ r ∈ t.rows, r.small
/-! ### lives by the law's own looking -/
theorem outAt_get {n m : Nat} {i : Nat} : ∀ {os : List Nat} {ls : List Nat}, i < ls.length → (os.foldl (outAt n m) ls).getD i 0 = if n + i ∈ os then m else ls.getD i 0
  | [], ls, h => by simp
  | o :: os, ls, h => by
    rw [List.foldl_cons, outAt_get (by rw [outAt_length]; exact h)]
    by_cases c : n + i ∈ os
    · rw [if_pos c, if_pos (List.mem_cons_of_mem _ c)]
    · rw [if_neg c]
      unfold outAt
      by_cases e : o = n + i
      · subst e
        rw [if_pos (by omega), if_pos (by simp), show n + i - n = i by omega, List.getD_eq_getElem?_getD, List.getElem?_set_self h]; rfl
      · rw [if_neg (show n + i ∉ o :: os by simp [c]; omega)]
        split
        · rw [List.getD_eq_getElem?_getD, List.getElem?_set_ne (by omega), ← List.getD_eq_getElem?_getD]
        · rfl
theorem lasts_get {t : Tape} {i : Nat} (h : i < t.rows.length) : t.lasts.getD i 0 = if t.n + i ∈ t.outs then t.rows.length else t.lasts1.getD i 0 := by
  unfold Tape.lasts
  exact outAt_get (by rw [lasts1_length]; exact h)
theorem lives_get {t : Tape} {i : Nat} (h : i < t.rows.length) : t.lives[i]? = some (i + 1, t.lasts.getD i 0) := by
  have hl : i < t.lasts.length := by rw [lasts_length]; exact h
  rw [Tape.lives, pairs_get, List.getD_eq_getElem?_getD, List.getElem?_eq_getElem hl, Option.map_some, Option.getD_some, Nat.zero_add]
def lifeF (t : Tape) (k l : Nat) : Option D := some (.tuple [natD (k + 1), natD (if t.n + k ∈ t.outs then t.rows.length else l)])
theorem enF_get {α : Type} {F : Nat → α → Option D} (hF : ∀ n x, (F n x).isSome = true) : ∀ {xs : List α} {n i : Nat}, (enF F n xs)[i]? = xs[i]?.bind fun x => F (n + i) x
  | [], n, i => by simp [enF]
  | x :: xs, n, i => by
    unfold enF
    cases e : F n x with
    | none => have := hF n x; rw [e] at this; cases this
    | some d =>
      cases i with
      | zero => simp [e]
      | succ i =>
        show (enF F (n + 1) xs)[i]? = _
        rw [enF_get hF, show n + 1 + i = n + (i + 1) by omega]
        simp
theorem lives_enF {t : Tape} : enF (lifeF t) 0 t.lasts1 = t.lives.map fun p => .tuple (lifeL p) := by
  apply List.ext_getElem?
  intro i
  rw [enF_get (fun _ _ => rfl), List.getElem?_map]
  by_cases h : i < t.rows.length
  · rw [lives_get h, List.getElem?_eq_getElem (by rw [lasts1_length]; exact h), lasts_get h]
    simp only [Option.bind_some, Option.map_some, Nat.zero_add, lifeF, lifeL, List.getD_eq_getElem?_getD]
    rw [List.getElem?_eq_getElem (by rw [lasts1_length]; exact h)]
    rfl
  · rw [List.getElem?_eq_none (by rw [lasts1_length]; omega), List.getElem?_eq_none (by rw [lives_length]; omega)]; rfl
/-- the boxes that the law fills by its draws -/
theorem clash_snoc {lv : List (Nat × Nat)} {bs : List Int} {b : Int} {n : Nat} (hn : bs.length = n) (h : clash lv bs 0 n = []) (k : ∀ l, l < n → lat lv n l = true → bs.getD l 0 ≠ b) : clash lv (bs ++ [b]) 0 (n + 1) = [] := by
  rw [clash_nil] at h ⊢
  have g : ∀ i, i < n → (bs ++ [b]).getD i 0 = bs.getD i 0 := fun i hi => by
    rw [List.getD_eq_getElem?_getD, List.getElem?_append_left (by omega), ← List.getD_eq_getElem?_getD]
  intro x _ hx l hl
  by_cases e : x = n
  · subst e
    unfold hit
    rw [g l (by omega)]
    have gn : (bs ++ [b]).getD bs.length 0 = b := by
      rw [List.getD_eq_getElem?_getD, List.getElem?_append_right (Nat.le_refl _)]; simp
    rw [← hn, gn]
    cases q : lat lv bs.length l with
    | false => rw [Bool.and_false]
    | true => rw [decide_eq_false (k l (by omega) (by rw [← hn]; exact q)), Bool.false_and]
  · have := h x (Nat.zero_le _) (by omega) l hl
    unfold hit at this ⊢
    rw [g l (by omega), g x (by omega)]
    exact this
end TP
namespace TP
open PySem PySem.Spec PyProof.Rows L2 DL
theorem loads_filter {mo : Nat} : ∀ lv : List (Nat × Nat), (lv.filterMap fun p => if p.1 ≤ mo ∧ mo ≤ p.2 then some (PyData.tuple (lifeL p)) else none).length = loadN lv mo
  | [] => rfl
  | p :: lv => by
    have ih := loads_filter (mo := mo) lv
    unfold loadN at ih ⊢
    rw [List.countP_cons]
    by_cases c : p.1 ≤ mo ∧ mo ≤ p.2
    · rw [List.filterMap_cons_some (by rw [if_pos c]), List.length_cons, ih]
      simp [c]
    · rw [List.filterMap_cons_none (by rw [if_neg c]), ih]
      have : (decide (p.1 ≤ mo) && decide (mo ≤ p.2)) = false := by simpa using c
      simp [this]
end TP
namespace TP
open PySem PySem.Spec PyProof.Rows L2 DL
theorem filterMap_if {α β : Type} {p : α → Bool} {g : α → β} : ∀ l : List α, (l.filterMap fun j => if p j then some (g j) else none) = (l.filter p).map g
  | [] => rfl
  | x :: l => by
    rw [List.filterMap_cons, List.filter_cons]
    cases c : p x with
    | true => rw [if_pos rfl, if_pos rfl, List.map_cons, filterMap_if l]
    | false => rw [if_neg Bool.false_ne_true, if_neg Bool.false_ne_true, filterMap_if l]
theorem any_natD {b : Nat} {l : List Nat} : ((l.map natD).any fun z => PyData.eqv z (natD b)) = l.contains b := by
  rw [List.any_map, Bool.eq_iff_iff, List.any_eq_true, List.contains_iff_mem]
  constructor
  · rintro ⟨x, hx, e⟩
    have e : decide ((x : Int) = (b : Int)) = true := by simpa [natD, PyData.eqv] using e
    have : x = b := by have := of_decide_eq_true e; omega
    exact this ▸ hx
  · intro h
    exact ⟨b, h, by simp [natD, PyData.eqv]⟩
theorem flat_nat (l : List Nat) : (l.map natD).all flatD = true := by rw [List.all_map]; exact List.all_eq_true.mpr fun _ _ => rfl
theorem drop_end {α : Type} {l : List α} {n : Nat} (h : l.drop n = []) : l.length ≤ n := by
  rcases Nat.lt_or_ge n l.length with z | z
  · rw [List.drop_eq_getElem_cons z] at h; cases h
  · exact z
theorem drop_at {α : Type} {l : List α} {n : Nat} {x : α} {r : List α} (h : l.drop n = x :: r) : l[n]? = some x ∧ n < l.length ∧ l.drop (n + 1) = r := by
  have e : l[n]? = some x := by have z := congrArg (·[0]?) h; simpa using z
  exact ⟨e, (List.getElem?_eq_some_iff.mp e).1, by rw [← List.drop_drop, h]; rfl⟩
end TP

-- K81G
set_option autoImplicit false
namespace K81
open PySem PySem.Spec PyProof.Rows L2 DL TP
abbrev PLawDigit : PB := PDigit
abbrev sLawMixed : Stmt := topS 42
abbrev sLawDraw : Stmt := topS 43
abbrev sLawDigit : Stmt := topS 44
theorem scLawMixed : FnScope ["cell", "k", "number"] ["cell", "k"] (defScope sLawMixed) := ⟨rfl, rfl, rfl, by decide +kernel, rfl, by decide +kernel, by decide +kernel⟩
theorem scLawDraw : FnScope ["cell", "k"] ["cell", "k"] (defScope sLawDraw) := ⟨rfl, rfl, rfl, by decide +kernel, rfl, by decide +kernel, by decide +kernel⟩
theorem scLawDigit : FnScope ["state", "below", "j", "found"] ["state", "below"] (defScope sLawDigit) := ⟨rfl, rfl, rfl, by decide +kernel, rfl, by decide +kernel, by decide +kernel⟩
section
variable {P : Program} {w : World} {K : PySem.W.Frag} {mg : Str → Option Value} {base : Heap} {xf : XT}
theorem ok_mixed {f : Addr} {fd : FuncData} {k : Nat} (F : Fun K "_law_mixed" "_law_mixed" sLawMixed f fd) : FnOk P w K mg base CX0 (k + 1) f fd ["cell", "k"] spMixed := by
  refine F.ok scLawMixed (fun vs H Q E h => ?_) (fun cdv A outer s H vs Q E hr h => ?_)
  · obtain ⟨c, k, rfl, _⟩ := h
    rfl
  · obtain ⟨c, k, rfl, h0, h1, q⟩ := h
    refine ⟨_, pss_cons (ps_set (i := 2) scLawMixed.nd rfl (.inl rfl) (pe_op op_add (pe_op op_add (pe_op op_mod (pv 0) (pe_ix ix_list (pe_lst (pa_cons pe_int (pa_cons pe_int (pa_cons pe_int (pa_cons pe_int pa_nil))))) (pe_op op_mod (pv 1) pe_int) (fun _ _ => rfl))) (pe_op op_mul pe_int (pv 1))) pe_int))
      (pss_one (ps_ret (pe_op op_mod (pe_op op_mul (pe_op op_mod (pe_op op_mul (pv 2) (pv 2)) pe_int) pe_int) pe_int))), ?_⟩
    refine ⟨_, rfl, (by show 4 ≤ sizeLine; decide), fun p hp => ?_⟩
    refine ⟨_, rfl, k, 4, rfl, rfl, (by show (0 : Int) < 4; decide), ?_⟩
    have k0 := Int.emod_nonneg k (show (4 : Int) ≠ 0 by decide)
    have k4 := Int.emod_lt_of_pos k (show (0 : Int) < 4 by decide)
    obtain ⟨m, hm, hat⟩ : ∃ m : Int, (0 < m ∧ m < 2147483648) ∧ atI ([.int 1000000007, .int 998244353, .int 2147483629, .int 1000000009] : List V) (k % 4) = some (.int m) := by
      have : k % 4 = 0 ∨ k % 4 = 1 ∨ k % 4 = 2 ∨ k % 4 = 3 := by omega
      rcases this with e | e | e | e <;> rw [e]
      · exact ⟨1000000007, by decide, atI_nat (j := 0) rfl⟩
      · exact ⟨998244353, by decide, atI_nat (j := 1) rfl⟩
      · exact ⟨2147483629, by decide, atI_nat (j := 2) rfl⟩
      · exact ⟨1000000009, by decide, atI_nat (j := 3) rfl⟩
    refine ⟨p, _, _, _, rfl, rfl, SqL.of upd_same, hat, ?_⟩
    refine ⟨_, _, rfl, rfl, hm.1, ?_⟩
    have m0 := Int.emod_nonneg c (show m ≠ 0 by omega)
    have m1 := Int.emod_lt_of_pos c hm.1
    refine ⟨_, rfl, 7919, k, rfl, rfl, .inl (by decide), _, _, rfl, rfl, _, _, rfl, rfl, ?_⟩
    refine ⟨_, rfl, _, rfl, _, _, rfl, rfl, .inl (by omega), _, _, rfl, rfl, (by show (0 : Int) < 2147483647; decide), _, _, rfl, rfl, .inr (by decide), _, _, rfl, rfl, (by show (0 : Int) < 2147483647; decide), ?_⟩
    exact q _ _ (Int.emod_nonneg _ (by decide)) (Int.emod_lt_of_pos _ (by decide)) (same_new hp)
theorem ok_draw {f : Addr} {fd : FuncData} {k : Nat} (F : Fun K "_law_draw" "_law_draw" sLawDraw f fd) : FnOk P w K mg base CX0 (k + 1) f fd ["cell", "k"] spDraw := by
  refine F.ok scLawDraw (fun vs H Q E h => ?_) (fun cdv A outer s H vs Q E hr h => ?_)
  · obtain ⟨c, k, rfl, _⟩ := h
    rfl
  · obtain ⟨c, k, rfl, h0, h1, q⟩ := h
    refine ⟨_, pss_one (ps_ret (pe_disp (pps_cons pe_str (pe_ifExp (pt_cmpR op_ge (pv 0) (pe_op op_pow pe_int pe_int) (nomark _)) (pv 0) pe_int) (pps_cons pe_str (pv 0) (pps_cons pe_str (pe_op op_mul pe_int (pv 1)) pps_nil))) (by rfl) (by rfl) (fun z => by cases z) (by decide))), ?_⟩
    intro p hp
    have fin : ∀ l : Int, Q (.ref p) (upd (upd H p (.dK [])) p (dSt l c (1000 * k))) := fun l => q l p _ hp (fun b o e => by rw [upd_ne (ne_of_none e hp), upd_ne (ne_of_none e hp)]; exact e) upd_same
    refine ⟨_, rfl, 10, 18, rfl, rfl, ⟨by decide, by decide, by decide⟩, _, _, rfl, rfl, _, rfl, ite2 (fun _ => ?_) (fun _ => ?_)⟩
    · exact ⟨_, rfl, _, rfl, _, rfl, 1000, k, rfl, rfl, .inl (by decide), upd_same, [(.inr "left", .int c), (.inr "cell", .int c), (.inr "turns", .int (1000 * k))], rfl, (by show 3 ≤ 15; decide), fin c⟩
    · exact ⟨_, rfl, _, rfl, 1000, k, rfl, rfl, .inl (by decide), upd_same, [(.inr "left", .int 0), (.inr "cell", .int c), (.inr "turns", .int (1000 * k))], rfl, (by show 3 ≤ 15; decide), fin 0⟩
theorem ok_digit {f fM : Addr} {fd fdM : FuncData} {k : Nat} (F : Fun K "_law_digit" "_law_digit" sLawDigit f fd) (FM : Fun K "_law_mixed" "_law_mixed" sLawMixed fM fdM) (bM : Binds K fdM ["cell", "k"] []) (mM : mg "_law_mixed" = some (.ref fM)) (mR : mg "range" = none) :
    FnOk P w K mg base CX0 (k + 2) f fd ["state", "below"] spDigit := by
  have GM : FnOk P w K mg base CX0 (k + 1) fM fdM ["cell", "k"] spMixed := ok_mixed FM
  refine F.ok scLawDigit (fun vs H Q E h => ?_) (fun cdv A outer s H vs Q E hr h => ?_)
  · obtain ⟨d, l, c, t, b, rfl, _⟩ := h
    rfl
  · obtain ⟨d, l, c, t, b, rfl, hd, t0, t1, b0, b1, q⟩ := h
    refine ⟨_, pss_cons (ps_if (pt_cmpR op_eq (pe_dget (hu_of hr) (pv 0) pe_str (fun _ _ => rfl)) pe_int (nomark _))
        (pss_one (ps_for PassesOwn.never rfl (pi_range1 rfl mR (pa_cons pe_int pa_nil)) (pg_name (i := 2) scLawDigit.nd rfl (.inl rfl))
          (pss_cons (ps_dput (hu_of hr) (pv 0) pe_str (pe_op op_add (pe_dget (hu_of hr) (pv 0) pe_str (fun _ _ => rfl)) pe_int) rfl)
          (pss_one (ps_dput (hu_of hr) (pv 0) pe_str (pe_op op_add (pe_op op_mul (pe_dget (hu_of hr) (pv 0) pe_str (fun _ _ => rfl)) pe_int) (pe_call GM hr (by rfl) mM FM.kp bM .nil pass0 (pa_cons (pe_dget (hu_of hr) (pv 0) pe_str (fun _ _ => rfl)) (pa_cons (pe_dget (hu_of hr) (pv 0) pe_str (fun _ _ => rfl)) pa_nil)))) rfl))))) pss_nil)
      (pss_cons (ps_set (i := 3) scLawDigit.nd rfl (.inl rfl) (pe_op op_mod (pe_dget (hu_of hr) (pv 0) pe_str (fun _ _ => rfl)) (pv 1)))
      (pss_cons (ps_dput (hu_of hr) (pv 0) pe_str (pe_op op_fdiv (pe_dget (hu_of hr) (pv 0) pe_str (fun _ _ => rfl)) (pv 1)) rfl)
      (pss_one (ps_ret (pv 3))))), ?_⟩
    -- what follows the if
    have tail : ∀ (l' t' : Int) (v2 : Option V) (H1 : Hp), t ≤ t' → t' ≤ t + 4 → H1 d = some (dSt l' c t') → (∀ a o, a ≠ d → H a = some o → H1 a = some o) →
        tSeq (tAsg (tOp (rI (fun _ j => 0 < j) fun i j => .int (i % j)) (tDGet (tVar 0) (tC (.str "left"))) (tVar 1)) (gName 3)) (tSeq (sDPut (tVar 0) (tC (.str "left")) (tOp (rI CDiv fun i j => .int (i / j)) (tDGet (tVar 0) (tC (.str "left"))) (tVar 1))) (tRet (tVar 3)))
          { nx := fun _ H' => Q .non H', rt := Q } [some (.ref d), some (.int b), v2, none] H1 := by
      intro l' t' v2 H1 h1 h2 e1 k1
      refine ⟨_, rfl, d, _, rfl, DGet.k (k := .inr "left") e1, _, rfl, l', b, rfl, rfl, b0, ?_⟩
      refine ⟨_, rfl, d, _, rfl, DGet.k (k := .inr "left") e1, _, rfl, l', b, rfl, rfl, ⟨b0, by omega⟩, _, rfl, d, _, rfl, DPut.k (k := .inr "left") e1 (by show 3 < sizeLine; decide), _, rfl, ?_⟩
      exact q _ _ t' _ (Int.emod_nonneg _ (by omega)) (Int.emod_lt_of_pos _ b0) h1 h2 (upd_same.trans (congrArg (fun z => some (HO.dK z)) p_left)) fun a o ha e => by rw [upd_ne ha]; exact k1 a o ha e
    refine ⟨_, rfl, d, _, rfl, DGet.k (k := .inr "left") hd, rfl, _, rfl, ite2 (fun e => ?_) (fun e => ?_)⟩
    · refine ⟨4, rfl, by decide, by decide, for_range (n := 4) (fun i σ H1 => ∃ (l' : Int) (v2 : Option V), σ = [some (.ref d), some (.int b), v2, none] ∧ H1 d = some (dSt l' c (t + i)) ∧ (∀ a o, a ≠ d → H a = some o → H1 a = some o))
        ⟨l, none, rfl, by rw [show (t + (0 : Nat) : Int) = t by omega]; exact hd, fun _ _ _ e => e⟩ ?_ ?_⟩
      · rintro i σ H1 hi ⟨l', v2, rfl, e1, k1⟩
        refine ⟨_, rfl, d, _, rfl, DGet.k (k := .inr "turns") e1, t + i, 1, rfl, rfl, _, rfl, d, _, rfl, DPut.k (k := .inr "turns") e1 (by show 3 < sizeLine; decide), ?_⟩
        have e2 : upd H1 d (.dK (putK [(.inr "left", .int l'), (.inr "cell", .int c), (.inr "turns", .int (t + i))] (.inr "turns") (.int (t + i + 1)))) d = some (dSt l' c (t + i + 1)) := upd_same.trans (congrArg (fun z => some (HO.dK z)) p_turns)
        refine ⟨_, rfl, d, _, rfl, DGet.k (k := .inr "left") e2, l', 2147483647, rfl, rfl, .inr (by decide), ?_⟩
        refine ⟨_, rfl, d, _, rfl, DGet.k (k := .inr "cell") e2, _, rfl, d, _, rfl, DGet.k (k := .inr "turns") e2, c, t + i + 1, rfl, by omega, by omega, fun r H2 r0 r1 sm => ?_⟩
        have e3 := sm _ _ e2
        refine ⟨_, r, rfl, rfl, _, rfl, d, _, rfl, DPut.k (k := .inr "left") e3 (by show 3 < sizeLine; decide), l' * 2147483647 + r, _, rfl, ?_, fun a o ha e => ?_⟩
        · rw [show (t + ((i + 1 : Nat) : Int)) = t + i + 1 by omega]
          exact upd_same.trans (congrArg (fun z => some (HO.dK z)) p_left)
        · rw [upd_ne ha]
          exact sm _ _ (by rw [upd_ne ha]; exact k1 a o ha e)
      · rintro σ H1 ⟨l', v2, rfl, e1, k1⟩
        exact tail l' (t + (4 : Nat)) v2 H1 (by omega) (by omega) e1 k1
    · exact tail l t none H (by omega) (by omega) hd fun _ _ _ e => e
theorem c__law_digit (T : TxtF K mg "_law_digit" sLawDigit ["state", "below"]) (TM : TxtF K mg "_law_mixed" sLawMixed ["cell", "k"]) (B : Blt mg) : CalG P w K mg base false 2 "_law_digit" ["state", "below"] (spB K xf PDigit) := by
  obtain ⟨f, fd, F, b, m⟩ := T.ex
  obtain ⟨fM, fdM, FM, bM, mM⟩ := TM.ex
  exact ⟨f, fd, _, digit_b (FnG.of0 (ok_digit (k := 0) F FM bM mM B.range)), F.kp, b, m, F⟩
theorem c__law_draw (T : TxtF K mg "_law_draw" sLawDraw ["cell", "k"]) : CalG P w K mg base false 1 "_law_draw" ["cell", "k"] spDraw := by
  obtain ⟨f, fd, F, b, m⟩ := T.ex
  exact ⟨f, fd, _, FnG.of0 (ok_draw (k := 0) F), F.kp, b, m, F⟩
end
section
variable {P : Program} {w : World} {K : PySem.W.Frag} {mg : Str → Option Value} {base : Heap} {xf : XT} {xa : Str → Addr}
abbrev sLawRatio : Stmt := topS 45
abbrev nLawRatio : List Str := ["top", "bottom", "one", "other", "sign"]
theorem scLawRatio : FnScope nLawRatio ["top", "bottom"] (defScope sLawRatio) := ⟨rfl, rfl, rfl, by decide +kernel, rfl, by decide +kernel, by decide +kernel⟩
def PLawRatio : PD := fun rs Qd _ => ∃ a b : Int, rs = [.da (.int a), .da (.int b)] ∧ b ≠ 0 ∧ a.natAbs.log2 < 9000 ∧ b.natAbs.log2 < 9000 ∧ Qd (.tuple [.int (ratN a b), .int (ratD a b)])
theorem c__law_ratio (T : TxtF K mg "_law_ratio" sLawRatio ["top", "bottom"]) (B : Blt mg) : CalG P w K mg base false 1 "_law_ratio" ["top", "bottom"] (spD K xf PLawRatio) := by
  have m_abs := B.abs
  refine T.okD (xf := xf) (k := 0) scLawRatio (fun rs Qd Ed hp => ?_) fun f cdv A outer s H Hd E rs Qd Ed hr hgd xw hp => ?_
  · obtain ⟨a, b, rfl, _⟩ := hp; rfl
  refine ⟨_, (ss_cons (s_par (by decide) (ps_par (i := 2) (j := 3) rfl scLawRatio.nd rfl rfl (by decide) rfl rfl (a_cons (q_b n_abs (pe_callB call_abs (by rfl) m_abs PyProof.Rows.boot_abs (a_cons (q_var (pv 0)) a_nil))) (a_cons (q_b n_abs (pe_callB call_abs (by rfl) m_abs PyProof.Rows.boot_abs (a_cons (q_var (pv 1)) a_nil))) a_nil)) (by rfl))) (ss_cons (s_while (ps_while (passes_of rfl) (t_bin (o_ne rfl) (pt_cmpR (op_neU hr.units) (q_var (pv 3)) q_int (nomark _))) (ss_one (s_par (by decide) (ps_par (i := 2) (j := 3) rfl scLawRatio.nd rfl rfl (by decide) rfl rfl (a_cons (q_var (pv 3)) (a_cons (q_bin o_mod (pe_op op_mod (q_var (pv 2)) (q_var (pv 3)))) a_nil)) (by rfl)))))) (ss_cons (s_set (ps_set (i := 4) scLawRatio.nd rfl (by first | exact .inl rfl | exact .inr rfl) (q_if (t_bin o_gt (pt_cmpR op_gt (q_var (pv 1)) q_int (nomark _))) q_int (q_neg q_int)))) (ss_one (s_ret (q_tup (a_cons (q_bin o_fdiv (pe_op op_fdivW (q_bin (o_mul rfl) (pe_op op_mulU (q_var (pv 4)) (q_var (pv 0)))) (q_var (pv 2)))) (a_cons (q_bin o_fdiv (pe_op op_fdivW (q_bin (o_mul rfl) (pe_op op_mulU (q_var (pv 4)) (q_var (pv 1)))) (q_var (pv 2)))) a_nil)))))))), ?_⟩
  obtain ⟨a, b, rfl, hb, la, lb, q⟩ := hp
  have absE : ∀ x : Int, (if x < 0 then -x else x) = ((x.natAbs : Nat) : Int) := fun x => by split <;> omega
  (conv => whnf)
  rw [absE, absE]
  refine ⟨fun k ρ => ∃ x y : Nat, ρ = [.da (.int a), .da (.int b), .da (.int (x : Nat)), .da (.int (y : Nat)), .un] ∧ Nat.gcd x y = Nat.gcd a.natAbs b.natAbs ∧ k = y, ⟨_, _, _, rfl, rfl, rfl⟩, ?_⟩
  rintro k ρ ⟨x, y, rfl, hg, hk⟩
  (conv => whnf)
  refine cnd_of (fun c => ?_) fun c => ?_
  · have c : (y : Int) ≠ 0 := by
      have c := not_t c
      exact of_decide_eq_false c
    have y0 : 0 < y := by omega
    (conv => whnf)
    refine ⟨by omega, ?_⟩
    (conv => whnf)
    refine ⟨x % y, by rw [hk]; exact Nat.mod_lt _ y0, y, x % y, by rw [Int.natCast_emod]; rfl, ?_, rfl⟩
    rw [← hg, Nat.gcd_comm x y]
    rw [Nat.gcd_rec y x, Nat.gcd_comm]
  · have c : (y : Int) = 0 := of_decide_eq_true (not_f c)
    have y0 : y = 0 := by omega
    subst y0
    rw [Nat.gcd_zero_right] at hg
    subst hg
    have g0 := gcd_pos' (a := a) hb
    (conv => whnf)
    refine cnd_of (fun c => ?_) fun c => ?_
    · have c := of_decide_eq_true c
      (conv => whnf)
      refine ⟨.inl (.inl (by omega)), ?_⟩
      (conv => whnf)
      refine ⟨⟨by omega, Nat.lt_of_le_of_lt (log2_mono (Nat.gcd_le_right _ (Int.natAbs_pos.mpr hb))) lb⟩, ?_⟩
      (conv => whnf)
      refine ⟨.inl (.inl (by omega)), ?_⟩
      (conv => whnf)
      refine ⟨⟨by omega, Nat.lt_of_le_of_lt (log2_mono (Nat.gcd_le_right _ (Int.natAbs_pos.mpr hb))) lb⟩, ?_⟩
      have e1 : ratN a b = 1 * a / (Nat.gcd a.natAbs b.natAbs : Nat) := by unfold ratN; rw [if_pos c]
      have e2 : ratD a b = 1 * b / (Nat.gcd a.natAbs b.natAbs : Nat) := by unfold ratD; rw [if_pos c]
      rw [e1, e2] at q
      exact q
    · have c := of_decide_eq_false c
      (conv => whnf)
      refine ⟨.inl (.inl (by omega)), ?_⟩
      (conv => whnf)
      refine ⟨⟨by omega, Nat.lt_of_le_of_lt (log2_mono (Nat.gcd_le_right _ (Int.natAbs_pos.mpr hb))) lb⟩, ?_⟩
      (conv => whnf)
      refine ⟨.inl (.inl (by omega)), ?_⟩
      (conv => whnf)
      refine ⟨⟨by omega, Nat.lt_of_le_of_lt (log2_mono (Nat.gcd_le_right _ (Int.natAbs_pos.mpr hb))) lb⟩, ?_⟩
      have e1 : ratN a b = -1 * a / (Nat.gcd a.natAbs b.natAbs : Nat) := by unfold ratN; rw [if_neg c]
      have e2 : ratD a b = -1 * b / (Nat.gcd a.natAbs b.natAbs : Nat) := by unfold ratD; rw [if_neg c]
      rw [e1, e2] at q
      exact q
abbrev sLawTape : Stmt := topS 46
abbrev nLawTape : List Str := ["state", "inputs", "most", "rows", "talls", "turn", "way", "values", "one", "other", "outs"]
theorem scLawTape : FnScope nLawTape ["state", "inputs", "most"] (defScope sLawTape) := ⟨rfl, rfl, rfl, by decide +kernel, rfl, by decide +kernel, by decide +kernel⟩
def PLawTape : PB := fun o rs Qd _ => ∃ (n i m : Nat), o = .st n ∧ rs = [.da (natD i), .da (natD m)] ∧ 1 ≤ i ∧ i ≤ 64 ∧ m ≤ 100 ∧ n ≤ 1000000000 ∧ ∀ (t : Tape) n', Drawn i m t → n' ≤ n + 20 * m + 100 → Qd t.enc (.st n')
theorem c__law_tape (T : TxtF K mg "_law_tape" sLawTape ["state", "inputs", "most"]) (B : Blt mg) (c__law_digit : CalG P w K mg base false 2 "_law_digit" ["state", "below"] (spB K xf PLawDigit)) (c__law_ratio : CalG P w K mg base false 1 "_law_ratio" ["top", "bottom"] (spD K xf PLawRatio)) : CalG P w K mg base false 3 "_law_tape" ["state", "inputs", "most"] (spB K xf PLawTape) := by
  have m_range := B.range
  have m_len := B.len
  have m_min := B.min
  have m_tuple := B.tuple
  refine T.okB (xf := xf) (k := 2) scLawTape (fun o rs Qd Ed hp => ?_) fun f cdv A outer s H Hd E B0 o rs Qd Ed hr hgd hp => ?_
  · obtain ⟨n, i, m, _, rfl, _⟩ := hp; rfl
  refine ⟨_, (ss_cons (s_par (by decide) (ps_par (i := 3) (j := 4) rfl scLawTape.nd rfl rfl (by decide) rfl rfl (a_cons (q_lst a_nil) (a_cons (q_bin (o_mul rfl) (pe_op op_mulU (q_lst (a_cons q_int a_nil)) (q_var (pv 1)))) a_nil)) (by rfl))) (ss_cons (s_for (ps_for (passes_of rfl) rfl (i_rng1 (pi_range1 rfl m_range (a_cons (q_callB rfl (pe_gc0 c__law_digit hr (by decide) (fun z => nomatch z) (by rfl) (pa_cons (pv 0) (a_cons (q_bin (o_add rfl) (pe_op op_addU (q_var (pv 2)) q_int)) a_nil)))) a_nil))) (g_name (pg_name (i := 5) scLawTape.nd rfl (by first | exact .inl rfl | exact .inr rfl))) (ss_cons (s_parC (is := [6, 7]) (ps_asg (pe_tup (a_cons (q_callB rfl (pe_gc0 c__law_digit hr (by decide) (fun z => nomatch z) (by rfl) (pa_cons (pv 0) (a_cons q_int a_nil)))) (a_cons (q_fz (q_bin (o_add rfl) (pe_op op_addU (q_var (pv 1)) (q_lenV rfl (pe_callB call_len (by rfl) m_len PySem.boot_len (pa_cons (pv 3) pa_nil)))))) a_nil))) (pg_tup rfl (pgs_cons (pg_name (i := 6) scLawTape.nd rfl (by first | exact .inl rfl | exact .inr rfl)) (pgs_cons (pg_name (i := 7) scLawTape.nd rfl (by first | exact .inl rfl | exact .inr rfl)) pgs_nil))))) (ss_cons (s_par (by decide) (ps_par (i := 8) (j := 9) rfl scLawTape.nd rfl rfl (by decide) rfl rfl (a_cons (q_callB rfl (pe_gc0 c__law_digit hr (by decide) (fun z => nomatch z) (by rfl) (pa_cons (pv 0) (a_cons (q_var (pv 7)) a_nil)))) (a_cons (q_bin o_sub (pe_op op_sub (q_bin o_sub (pe_op op_sub (q_var (pv 7)) q_int)) (q_callB rfl (pe_gc0 c__law_digit hr (by decide) (fun z => nomatch z) (by rfl) (pa_cons (pv 0) (a_cons (q_b n_min2 (pe_callB (call_min2 rfl) (by rfl) m_min PyProof.Rows.boot_min (a_cons (q_var (pv 7)) (a_cons q_int a_nil)))) a_nil)))))) a_nil)) (by rfl))) (ss_cons (s_if (t_bin (o_eq rfl) (pt_cmpR (op_eqU hr.units) (q_var (pv 6)) q_int (nomark _))) (ss_one (s_expr (q_app (pe_bm PySem.F.plainAttrs_list PySem.F.slot_list_append PySem.F.type_list_append mt_append (pv 3) (a_cons (q_tup (a_cons q_str (a_cons (q_call (xw0 (xf := xf)) (pe_gc0 c__law_ratio hr (by decide) (fun z => nomatch z) (by rfl) (a_cons (q_bin o_sub (pe_op op_sub (q_callB rfl (pe_gc0 c__law_digit hr (by decide) (fun z => nomatch z) (by rfl) (pa_cons (pv 0) (a_cons q_int a_nil)))) q_int)) (a_cons (q_bin (o_add rfl) (pe_op op_addU q_int (q_callB rfl (pe_gc0 c__law_digit hr (by decide) (fun z => nomatch z) (by rfl) (pa_cons (pv 0) (a_cons q_int a_nil)))))) a_nil)))) a_nil))) a_nil))))) (ss_one (s_if (t_w (w_or (t_bin (o_eq rfl) (pt_cmpR (op_eqU hr.units) (q_var (pv 6)) q_int (nomark _))) (w_or1 (t_bin o_gt (pt_cmpR op_gt (q_bin (o_add rfl) (pe_op op_addU (q_ixV rfl (pe_ix ix_seq (pv 4) (q_var (pv 8)) (fun _ _ => rfl))) (q_ixV rfl (pe_ix ix_seq (pv 4) (q_var (pv 9)) (fun _ _ => rfl))))) q_int (nomark _)))))) (ss_one (s_expr (q_app (pe_bm PySem.F.plainAttrs_list PySem.F.slot_list_append PySem.F.type_list_append mt_append (pv 3) (a_cons (q_tup (a_cons q_str (a_cons (q_var (pv 8)) a_nil))) a_nil))))) (ss_one (s_expr (q_app (pe_bm PySem.F.plainAttrs_list PySem.F.slot_list_append PySem.F.type_list_append mt_append (pv 3) (a_cons (q_tup (a_cons (q_bin (o_ix rfl) (pe_ix ix_seq (q_lst (a_cons q_str (a_cons q_str (a_cons q_str (a_cons q_str (a_cons q_str (a_cons q_str a_nil))))))) (q_bin o_sub (pe_op op_sub (q_var (pv 6)) q_int)) (fun _ _ => rfl))) (a_cons (q_var (pv 8)) (a_cons (q_var (pv 9)) a_nil)))) a_nil)))))))) (ss_one (s_expr (q_app (pe_bm PySem.F.plainAttrs_list PySem.F.slot_list_append PySem.F.type_list_append mt_append (pv 4) (a_cons (q_if (t_bin (o_eq rfl) (pt_cmpR (op_eqU hr.units) (q_var (pv 6)) q_int (nomark _))) q_int (q_if (t_bin (o_eq rfl) (pt_cmpR (op_eqU hr.units) (q_bin (o_ix rfl) (pe_ix ix_seq (q_ixV rfl (pe_ix ix_seq (pv 3) (q_neg q_int) (fun _ _ => rfl))) q_int (fun _ _ => rfl))) q_str (nomark _))) (q_ixV rfl (pe_ix ix_seq (pv 4) (q_var (pv 8)) (fun _ _ => rfl))) (q_bin (o_add rfl) (pe_op op_addU (q_bin (o_add rfl) (pe_op op_addU (q_ixV rfl (pe_ix ix_seq (pv 4) (q_var (pv 8)) (fun _ _ => rfl))) (q_ixV rfl (pe_ix ix_seq (pv 4) (q_var (pv 9)) (fun _ _ => rfl))))) q_int)))) a_nil)))))))))) (ss_cons (s_set (ps_set (i := 7) scLawTape.nd rfl (by first | exact .inl rfl | exact .inr rfl) (q_fz (q_bin (o_add rfl) (pe_op op_addU (q_var (pv 1)) (q_lenV rfl (pe_callB call_len (by rfl) m_len PySem.boot_len (pa_cons (pv 3) pa_nil)))))))) (ss_cons (s_setLcF (is := [5]) (js := [5]) (by decide) (ps_setLc (i := 10) (own := [("turn", 5)]) rfl scLawTape.nd rfl rfl (sw_true rfl rfl rfl (by decide +kernel)) (i_rng1 (pi_range1 rfl m_range (a_cons (q_bin (o_add rfl) (pe_op op_addU q_int (q_callB rfl (pe_gc0 c__law_digit hr (by decide) (fun z => nomatch z) (by rfl) (pa_cons (pv 0) (a_cons q_int a_nil)))))) a_nil))) (blkOk_by (N := nLawTape) (sc := defScope sLawTape) (by decide +kernel)) (fun _ _ _ _ _ => (g_name (pg_name (i := 5) scLawTape.nd rfl (by first | exact .inl rfl | exact .inr rfl)))) (fun _ _ _ _ _ => yes_le) (fun _ _ _ _ _ => (q_bin o_sub (pe_op op_sub (q_bin o_sub (pe_op op_sub (q_var (pv 7)) q_int)) (q_callB rfl (pe_gc0 c__law_digit hr (by decide) (fun z => nomatch z) (by rfl) (pa_cons (pv 0) (a_cons (q_b n_min2 (pe_callB (call_min2 rfl) (by rfl) m_min PyProof.Rows.boot_min (a_cons (q_var (pv 7)) (a_cons q_int a_nil)))) a_nil))))))))) (ss_one (s_ret (q_tup (a_cons (q_var (pv 1)) (a_cons (q_b (n_tuple rfl) (pe_callTy call_tuple_of (by rfl) m_tuple PyProof.Rows.boot_tuple (a_cons (q_var (pv 3)) a_nil))) (a_cons (q_b (n_tuple rfl) (pe_callTy call_tuple_of (by rfl) m_tuple PyProof.Rows.boot_tuple (a_cons (q_var (pv 10)) a_nil))) a_nil)))))))))), ?_⟩
  obtain ⟨n, i, m, rfl, rfl, i1, i2, hm, hn, q⟩ := hp
  (conv => whnf)
  refine ⟨by simp only [List.length_cons, List.length_nil, sizeLine]; omega, by omega, by omega, ?_⟩
  (conv => whnf)
  refine ⟨n, _, rfl, rfl, by omega, by omega, by omega, fun r r0 r1 => ?_⟩
  (conv => whnf)
  refine cnd_t (ble_t (by omega)) ?_
  have e0 : (List.replicate (i : Int).toNat [(.int 1 : D)]).flatten = (List.replicate i 1).map natD := by rw [Int.toNat_natCast, flat_rep, List.map_replicate, List.map_const']; simp [natD]
  refine forGo_rng (fun k ρ => ∃ (n' : Nat) (rows : List TP.Row) (a b c d e f : Sl), n' ≤ n + 4 + 20 * k ∧ rows.length = k ∧ RowsOk i rows ∧ (∀ x ∈ tallsR (List.replicate i 1) rows, x ≤ 59) ∧ (∀ r ∈ rows, r.small) ∧
    ρ = [.bo (.st n'), .da (natD i), .da (natD m), .ow (.l (rows.map Row.enc)), .ow (.l ((tallsR (List.replicate i 1) rows).map natD)), a, b, c, d, e, f]) ?_ ?_ ⟨_, [], _, _, _, _, _, _, Nat.le_refl _, rfl, trivial, fun x hx => ?_, (fun _ h => absurd h List.not_mem_nil), by rw [show tallsR (List.replicate i 1) [] = List.replicate i 1 from rfl, ← e0]; rfl⟩
  · rintro k ρ W hk hW ⟨n', rows, a, b, c, d, e, f, h1, h2, h3, h4, h5, rfl⟩
    have lr : (rows.map Row.enc).length = k := by rw [List.length_map, h2]
    have hkm : k < m + 1 := by omega
    (conv => whnf)
    refine ⟨n', _, rfl, rfl, by omega, by omega, by omega, fun way w0 w1 => ?_⟩
    (conv => whnf)
    refine ⟨n' + 4, _, rfl, rfl, by omega, by omega, by omega, fun one o0 o1 => ?_⟩
    (conv => whnf)
    refine ⟨n' + 8, _, rfl, rfl, by omega, ?_, ?_, fun oth p0 p1 => ?_⟩
    · show 0 < if (4 : Int) < ↑i + ↑(rows.map Row.enc).length then (4 : Int) else ↑i + ↑(rows.map Row.enc).length
      rw [lr]; split <;> omega
    · show (if (4 : Int) < ↑i + ↑(rows.map Row.enc).length then (4 : Int) else ↑i + ↑(rows.map Row.enc).length) < 1000000000
      rw [lr]; split <;> omega
    have p1 : oth < ↑i + ↑k := by
      have p1 : oth < if (4 : Int) < ↑i + ↑(rows.map Row.enc).length then (4 : Int) else ↑i + ↑(rows.map Row.enc).length := p1
      rw [lr] at p1; split at p1 <;> omega
    rw [lr] at o1
    obtain ⟨w, rfl⟩ := int_nat w0
    obtain ⟨o, rfl⟩ := int_nat o0
    obtain ⟨p, rfl⟩ := int_nat p0
    have lt : (tallsR (List.replicate i 1) rows).length = i + k := by rw [tallsR_length, List.length_replicate, h2]
    have eu : (i : Int) + ((rows.map Row.enc).length : Nat) - 1 - (p : Nat) = ((i + k - 1 - p : Nat) : Int) := by rw [lr]; omega
    have ho : o < i + k := by omega
    have hu : i + k - 1 - p < i + k := by omega
    have z9 : rows.length < sizeLine := by rw [sizeLine_eq]; omega
    have z8 : (tallsR (List.replicate i 1) rows).length < sizeLine := by rw [sizeLine_eq]; omega
    -- a row is put
    have put : ∀ (n1 : Nat) (r : TP.Row) (s5 s6 s7 s8 s9 s10 : Sl), n1 ≤ n' + 20 → r.Ok (i + k) → r.small → tallRow (tallsR (List.replicate i 1) rows) r ≤ 59 →
        W [.bo (.st n1), .da (natD i), .da (natD m), .ow (.l (rows.map Row.enc ++ [r.enc])), .ow (.l ((tallsR (List.replicate i 1) rows).map natD ++ [natD (tallRow (tallsR (List.replicate i 1) rows) r)])), s5, s6, s7, s8, s9, s10] := by
      intro n1 r s5 s6 s7 s8 s9 s10 hn1 hr hs ht
      refine hW _ ⟨n1, rows ++ [r], s5, s6, s7, s8, s9, s10, by omega, by simp [h2], h3.snoc (by rw [h2]; exact hr), fun x hx => ?_, fun x hx => ?_, by rw [tallsR_snoc, List.map_append, List.map_append]; rfl⟩
      · rw [tallsR_snoc] at hx
        rcases List.mem_append.mp hx with z | z
        · exact h4 x z
        · rw [List.mem_singleton.mp z]; exact ht
      · rcases List.mem_append.mp hx with z | z
        · exact h5 x z
        · rw [List.mem_singleton.mp z]; exact hs
    (conv => whnf)
    refine cnd_of (fun c => ?_) fun c => ?_
    · have c : w = 0 := by have := of_decide_eq_true c; omega
      subst c
      (conv => whnf)
      refine ⟨n' + 12, _, rfl, rfl, by omega, by omega, by omega, fun t1 t10 t11 => ?_⟩
      (conv => whnf)
      refine ⟨n' + 16, _, rfl, rfl, by omega, by omega, by omega, fun t2 t20 t21 => ?_⟩
      (conv => whnf)
      refine ⟨_, _, rfl, by omega, Nat.lt_of_le_of_lt (log2_mono (show (t1 - 4).natAbs ≤ 8 by omega)) (by decide), Nat.lt_of_le_of_lt (log2_mono (show (1 + t2).natAbs ≤ 8 by omega)) (by decide), ?_⟩
      have hb : 1 + t2 ≠ 0 := by omega
      have le := rat_le (a := t1 - 4) hb
      have ps := rat_pos (a := t1 - 4) hb
      (conv => whnf)
      refine ⟨by rw [List.length_map]; exact z9, ?_⟩
      (conv => whnf)
      refine ⟨by rw [List.length_map]; exact z8, ?_⟩
      refine put _ (.num (ratN (t1 - 4) (1 + t2)) (ratD (t1 - 4) (1 + t2))) _ _ _ _ _ _ (by omega) ⟨⟨by omega, by omega⟩, ⟨by omega, by omega⟩, rat_gcd hb⟩ ⟨by omega, by omega, by omega⟩ (by show 1 ≤ 59; omega)
    · have c : w ≠ 0 := by have := of_decide_eq_false c; omega
      -- what is put for a row that is no number
      have last : ∀ r : TP.Row, atD (rows.map Row.enc ++ [r.enc]) (-1) = some r.enc := fun r => atD_last
      (conv => whnf)
      refine cnd_of (fun c1 => ?_) fun c1 => ?_
      · (conv => whnf)
        refine ⟨by rw [List.length_map]; exact z9, ?_⟩
        (conv => whnf)
        refine cnd_f (decide_eq_false (by omega)) ?_
        (conv => whnf)
        refine someQ_of (last (.op "neg" [o])) ?_
        (conv => whnf)
        refine someQ_of (atD_nat (k := o) rfl (natD_get (by rw [lt]; exact ho))) ?_
        (conv => whnf)
        refine ⟨by rw [List.length_map]; exact z8, ?_⟩
        exact put _ (.op "neg" [o]) _ _ _ _ _ _ (by omega) (.inl ⟨rfl, o, ho, rfl⟩) trivial (h4 _ (by rw [tallRow, List.getD_eq_getElem?_getD, List.getElem?_eq_getElem (by rw [lt]; exact ho)]; exact List.getElem_mem _))
      (conv => whnf)
      refine someQ_of (atD_nat (k := o) rfl (natD_get (by rw [lt]; exact ho))) ?_
      (conv => whnf)
      refine someQ_of (atD_nat (k := i + k - 1 - p) eu (natD_get (by rw [lt]; exact hu))) ?_
      (conv => whnf)
      refine cnd_of (fun c2 => ?_) fun c2 => ?_
      · (conv => whnf)
        refine ⟨by rw [List.length_map]; exact z9, ?_⟩
        (conv => whnf)
        refine cnd_f (decide_eq_false (by omega)) ?_
        (conv => whnf)
        refine someQ_of (last (.op "neg" [o])) ?_
        (conv => whnf)
        refine someQ_of (atD_nat (k := o) rfl (natD_get (by rw [lt]; exact ho))) ?_
        (conv => whnf)
        refine ⟨by rw [List.length_map]; exact z8, ?_⟩
        exact put _ (.op "neg" [o]) _ _ _ _ _ _ (by omega) (.inl ⟨rfl, o, ho, rfl⟩) trivial (h4 _ (by rw [tallRow, List.getD_eq_getElem?_getD, List.getElem?_eq_getElem (by rw [lt]; exact ho)]; exact List.getElem_mem _))
      · have c1 : (w : Int) ≠ 1 := of_decide_eq_false c1
        have c2 : ¬ (58 : Int) < ↑((tallsR (List.replicate i 1) rows).getD o 0) + ↑((tallsR (List.replicate i 1) rows).getD (i + k - 1 - p) 0) := of_decide_eq_false c2
        obtain ⟨kd, hkd, hat⟩ : ∃ kd : Str, (kd = "add" ∨ kd = "sub" ∨ kd = "mul" ∨ kd = "div") ∧ atD [(.str "add" : D), .str "sub", .str "mul", .str "mul", .str "add", .str "div"] ((w : Int) - 2) = some (.str kd) := by
          have : w = 2 ∨ w = 3 ∨ w = 4 ∨ w = 5 ∨ w = 6 ∨ w = 7 := by omega
          rcases this with rfl | rfl | rfl | rfl | rfl | rfl
          · exact ⟨"add", .inl rfl, rfl⟩
          · exact ⟨"sub", .inr (.inl rfl), rfl⟩
          · exact ⟨"mul", .inr (.inr (.inl rfl)), rfl⟩
          · exact ⟨"mul", .inr (.inr (.inl rfl)), rfl⟩
          · exact ⟨"add", .inl rfl, rfl⟩
          · exact ⟨"div", .inr (.inr (.inr rfl)), rfl⟩
        (conv => whnf)
        refine someQ_of hat ?_
        (conv => whnf)
        refine ⟨by rw [List.length_map]; exact z9, ?_⟩
        (conv => whnf)
        refine cnd_f (decide_eq_false (by omega)) ?_
        (conv => whnf)
        have er : (PyData.tuple [.str kd, .int (o : Nat), .int ((i : Int) + ((rows.map Row.enc).length : Nat) - 1 - (p : Nat))]) = (Row.op kd [o, i + k - 1 - p]).enc := by rw [eu]; rfl
        refine someQ_of ((congrArg (fun z => atD (rows.map Row.enc ++ [z]) (-1)) er).trans (last _)) ?_
        (conv => whnf)
        refine cnd_f (by rcases hkd with rfl | rfl | rfl | rfl <;> rfl) ?_
        (conv => whnf)
        refine someQ_of (atD_nat (k := o) rfl (natD_get (by rw [lt]; exact ho))) ?_
        (conv => whnf)
        refine someQ_of (atD_nat (k := i + k - 1 - p) eu (natD_get (by rw [lt]; exact hu))) ?_
        (conv => whnf)
        refine ⟨by rw [List.length_map]; exact z8, ?_⟩
        have z := put (n' + 12) (.op kd [o, i + k - 1 - p]) (.da (.int (0 + (k : Nat)))) (.da (natD w)) (.da (.int ((i : Int) + ((rows.map Row.enc).length : Nat)))) (.da (natD o)) (.da (.int ((i : Int) + ((rows.map Row.enc).length : Nat) - 1 - (p : Nat)))) f (by omega) (.inr ⟨hkd, o, _, ho, hu, rfl⟩) trivial (by show _ + _ + 1 ≤ 59; omega)
        rw [← er] at z
        exact z
  · rintro ρ ⟨n', rows, a, b, c, d, e, f, h1, h2, h3, h4, h5, rfl⟩
    have hr : r.toNat ≤ m := by omega
    have lr : (rows.map Row.enc).length = rows.length := List.length_map _
    (conv => whnf)
    refine ⟨n', _, rfl, rfl, by omega, by omega, by omega, fun y y0 y1 => ?_⟩
    (conv => whnf)
    refine cnd_t (ble_t (by omega)) ?_
    (conv => whnf)
    refine cnd_t (szle (by rw [rgS_len]; omega)) ?_
    refine lcGo_indR (fun j acc ρ => ∃ (n1 : Nat) (os : List Nat), n1 ≤ n' + 4 + 4 * j ∧ os.length = j ∧ (∀ o ∈ os, o < i + rows.length) ∧ acc = os.map natD ∧
      ρ = [.bo (.st n1), .da (natD i), .da (natD m), .ow (.l (rows.map Row.enc)), .ow (.l ((tallsR (List.replicate i 1) rows).map natD)), .un, b, .da (.int ((i : Int) + ((rows.map Row.enc).length : Nat))), d, e, f]) ?_ ?_ ⟨_, [], Nat.le_refl _, rfl, (fun _ h => absurd h List.not_mem_nil), rfl, rfl⟩
    · rintro j acc ρ W hj hW ⟨n1, os, k1, k2, k3, rfl, rfl⟩
      (conv => whnf)
      refine ⟨n1, _, rfl, rfl, by omega, ?_, ?_, fun z z0 z1 => ?_⟩
      · show 0 < if (5 : Int) < ↑i + ↑(rows.map Row.enc).length then (5 : Int) else ↑i + ↑(rows.map Row.enc).length
        rw [lr]; split <;> omega
      · show (if (5 : Int) < ↑i + ↑(rows.map Row.enc).length then (5 : Int) else ↑i + ↑(rows.map Row.enc).length) < 1000000000
        rw [lr]; split <;> omega
      have z1 : z < ↑i + ↑rows.length := by
        have z1 : z < if (5 : Int) < ↑i + ↑(rows.map Row.enc).length then (5 : Int) else ↑i + ↑(rows.map Row.enc).length := z1
        rw [lr] at z1; split at z1 <;> omega
      obtain ⟨z, rfl⟩ := int_nat z0
      have ez : (i : Int) + ((rows.map Row.enc).length : Nat) - 1 - (z : Nat) = ((i + rows.length - 1 - z : Nat) : Int) := by rw [lr]; omega
      (conv => whnf)
      have w := hW (os.map natD ++ [natD (i + rows.length - 1 - z)]) [.bo (.st (n1 + 4)), .da (natD i), .da (natD m), .ow (.l (rows.map Row.enc)), .ow (.l ((tallsR (List.replicate i 1) rows).map natD)), .un, b, .da (.int ((i : Int) + ((rows.map Row.enc).length : Nat))), d, e, f]
        ⟨n1 + 4, os ++ [i + rows.length - 1 - z], by omega, by simp [k2], fun o ho => ?_, by rw [List.map_append]; rfl, rfl⟩
      · have en : natD (i + rows.length - 1 - z) = .int ((i : Int) + ((rows.map Row.enc).length : Nat) - 1 - (z : Nat)) := by rw [ez]; rfl
        rw [en] at w
        exact w
      · rcases List.mem_append.mp ho with q | q
        · exact k3 o q
        · rw [List.mem_singleton.mp q]; omega
    · rintro acc ρ ⟨n1, os, k1, k2, k3, rfl, rfl⟩
      (conv => whnf)
      have q1 := q ⟨i, rows, os⟩ n1 ⟨⟨i1, i2, by show rows.length ≤ 400; omega, h3, by show 1 ≤ os.length; omega, by show os.length ≤ 64; omega, k3⟩, rfl, by show rows.length ≤ m; omega, by show os.length ≤ 3; omega, h4, h5⟩ (by omega)
      exact q1
  · have := (List.mem_replicate.mp hx).2; omega
end
end K81

-- DL19
set_option autoImplicit true
namespace DL
open PySem PySem.Spec PyProof.Rows L2
/-! ### data that can be shown and compared: n deep at most, L signs at most -/
structure Gd (n L : Nat) (d : D) : Prop where
  lay : d.canLay0 = true
  dep : d.depth ≤ n
  sho : d.showable = true
  nod : d.hasDict = false
  len : d.shown.length ≤ L
theorem Gd.mono {n m L M : Nat} {d : D} (h : Gd n L d) (a : n ≤ m) (b : L ≤ M) : Gd m M d := ⟨h.lay, Nat.le_trans h.dep a, h.sho, h.nod, Nat.le_trans h.len b⟩
theorem Gd.shOk {n L : Nat} {d : D} (h : Gd n L d) (a : n ≤ 40 := by decide) (b : L ≤ sizeLine := by decide) : DL.shOk d := ⟨h.sho, h.nod, Nat.le_trans h.dep a, Nat.le_trans h.len b⟩
theorem Gd.shaped {n L : Nat} {d : D} (h : Gd n L d) (a : n ≤ 64 := by decide) : SeqAt.shaped d = true := by
  unfold SeqAt.shaped
  rw [h.lay, decide_eq_true (Nat.le_trans h.dep a)]; rfl
theorem Gd.eqv {n L : Nat} {d : D} (h : Gd n L d) : PyData.eqv d d = true := SeqAt.eqv_refl d h.lay
theorem gd_none : Gd 0 4 .none := ⟨rfl, Nat.le_refl _, rfl, rfl, by decide⟩
theorem gd_bool (b : Bool) : Gd 0 5 (.bool b) := ⟨rfl, Nat.le_refl _, rfl, rfl, by cases b <;> decide⟩
theorem gd_int {i : Int} {k : Nat} (h : i.natAbs.log2 < k) (hk : 0 < k := by decide) (h2 : k ≤ 1920 := by decide) : Gd 0 (k + 1) (.int i) := by
  refine ⟨rfl, Nat.le_refl _, decide_eq_true (by omega), rfl, ?_⟩
  show (Str.ofString (toString i)).length ≤ k + 1
  rw [PySem.ofString_length]
  exact int_text_length_le hk h
theorem gd_nat {n k : Nat} (h : n < 2 ^ k) (hk : 0 < k := by decide) (h2 : k ≤ 1920 := by decide) : Gd 0 (k + 1) (.int (n : Nat)) := by
  refine gd_int (k := k) ?_ hk h2
  by_cases z : n = 0
  · subst z; exact hk
  · rw [Int.natAbs_natCast]
    exact (Nat.log2_lt z).mpr h
theorem gd_str (x : Str) (h : PyData.strOk x = true := by decide +kernel) : Gd 0 (10 * x.length + 2) (.str x) := by
  refine ⟨h, Nat.le_refl _, rfl, rfl, StrLaws.reprText_len x fun c hc => ?_⟩
  have := Array.all_eq_true'.mp h c (by simpa using hc)
  have := of_decide_eq_true this
  omega
theorem gd_all {n L : Nat} : ∀ {ds : List D}, (∀ d ∈ ds, Gd n L d) → PyData.canLayAll0 ds = true ∧ PyData.depthAll ds ≤ n ∧ PyData.showableAll ds = true ∧ PyData.hasDictAll ds = false ∧ piled (PyData.shownAll ds) ≤ ds.length * (L + 2) ∧ (PyData.shownAll ds).length = ds.length
  | [], _ => ⟨rfl, Nat.zero_le _, rfl, rfl, Nat.zero_le _, rfl⟩
  | d :: ds, h => by
    obtain ⟨h1, h2, h3, h4, h5, h6⟩ := gd_all (ds := ds) fun x hx => h x (List.mem_cons_of_mem _ hx)
    have g := h d List.mem_cons_self
    refine ⟨?_, ?_, ?_, ?_, ?_, ?_⟩
    · rw [PyData.canLayAll0, g.lay, h1]; rfl
    · rw [PyData.depthAll]; exact Nat.max_le.mpr ⟨g.dep, h2⟩
    · rw [PyData.showableAll, g.sho, h3]; rfl
    · rw [PyData.hasDictAll, g.nod, h4]; rfl
    · rw [PyData.shownAll, piled_cons, List.length_cons, Nat.add_mul, Nat.one_mul]
      have := g.len
      omega
    · rw [PyData.shownAll, List.length_cons, h6, List.length_cons]
theorem gd_list {n L : Nat} {ds : List D} (h : ∀ d ∈ ds, Gd n L d) : Gd (n + 1) (ds.length * (L + 2) + 2) (.list ds) := by
  obtain ⟨h1, h2, h3, h4, h5, h6⟩ := gd_all h
  refine ⟨by rw [PyData.canLay0]; exact h1, by rw [PyData.depth]; omega, by rw [PyData.showable]; exact h3, by rw [PyData.hasDict]; exact h4, ?_⟩
  rw [PyData.shown]
  unfold listText
  rw [strLen_append]
  cases e : PyData.shownAll ds with
  | nil => show 1 + 1 ≤ _; omega
  | cons t r =>
    have q := textFrom_length_pos r 1 (("[" : Str) ++ (if (0 : Nat) > 0 then ", " else "" : String) ++ t) (Nat.succ_pos 0)
    have q2 : (textFrom 0 "[" (t :: r)).length = _ := q
    rw [e, piled_cons] at h5
    rw [q2, strLen_append, strLen_append]
    show 1 + 0 + t.length + piled r + 1 ≤ _
    omega
theorem gd_tuple {n L : Nat} {ds : List D} (h : ∀ d ∈ ds, Gd n L d) : Gd (n + 1) (ds.length * (L + 2) + 3) (.tuple ds) := by
  obtain ⟨h1, h2, h3, h4, h5, h6⟩ := gd_all h
  refine ⟨by rw [PyData.canLay0]; exact h1, by rw [PyData.depth]; omega, by rw [PyData.showable]; exact h3, by rw [PyData.hasDict]; exact h4, ?_⟩
  rw [PyData.shown]
  unfold tupleText
  rw [strLen_append, strLen_append]
  have a : ∀ b : Bool, (Str.ofString (if b then ",)" else ")")).length ≤ 2 := fun b => by cases b <;> decide
  have a := a ((PyData.shownAll ds).length == 1)
  have b : (Str.join ", " (PyData.shownAll ds)).length ≤ piled (PyData.shownAll ds) := by
    by_cases z : PyData.shownAll ds = []
    · rw [z]; exact Nat.le_refl _
    · have := join_length_add _ z; omega
  have c : (("(" : String) : Str).length = 1 := rfl
  have a2 : ((if ((PyData.shownAll ds).length == 1) = true then ",)" else ")" : String) : Str).length ≤ 2 := a
  omega
theorem gd_two {n L : Nat} {a b : D} (ha : Gd n L a) (hb : Gd n L b) : Gd (n + 1) (2 * (L + 2) + 3) (.tuple [a, b]) := gd_tuple (ds := [a, b]) fun d hd => by
  simp only [List.mem_cons, List.not_mem_nil, or_false] at hd
  rcases hd with rfl | rfl
  · exact ha
  · exact hb
theorem gd_one {n L : Nat} {a : D} (ha : Gd n L a) : Gd (n + 1) (1 * (L + 2) + 2) (.list [a]) := gd_list (ds := [a]) fun d hd => by
  simp only [List.mem_cons, List.not_mem_nil, or_false] at hd
  subst hd
  exact ha
theorem gd_nats {k m : Nat} {ns : List Nat} (h : ∀ n ∈ ns, n < 2 ^ k) (l : ns.length ≤ m) (hk : 0 < k := by decide) (h2 : k ≤ 1920 := by decide) : Gd 1 (m * (k + 1 + 2) + 3) (.tuple (ns.map fun n => PyData.int (n : Nat))) := by
  have g := gd_tuple (n := 0) (L := k + 1) (ds := ns.map fun n => PyData.int (n : Nat)) fun d hd => by
    obtain ⟨n, hn, rfl⟩ := List.mem_map.mp hd
    exact gd_nat (h n hn) hk h2
  rw [List.length_map] at g
  exact g.mono (Nat.le_refl _) (by have := Nat.mul_le_mul_right (k + 1 + 2) l; omega)
theorem gd_natl {k m : Nat} {ns : List Nat} (h : ∀ n ∈ ns, n < 2 ^ k) (l : ns.length ≤ m) (hk : 0 < k := by decide) (h2 : k ≤ 1920 := by decide) : Gd 1 (m * (k + 1 + 2) + 3) (.list (ns.map fun n => PyData.int (n : Nat))) := by
  have g := gd_list (n := 0) (L := k + 1) (ds := ns.map fun n => PyData.int (n : Nat)) fun d hd => by
    obtain ⟨n, hn, rfl⟩ := List.mem_map.mp hd
    exact gd_nat (h n hn) hk h2
  rw [List.length_map] at g
  exact g.mono (Nat.le_refl _) (by have := Nat.mul_le_mul_right (k + 1 + 2) l; omega)
theorem shw_nn {a b : D} (h : a = b) : (!decide (shw a = shw b)) = false := by rw [h, decide_eq_true rfl]; rfl
/-- two texts of equal data -/
theorem shw_eq {a b : D} (h : a = b) : decide (shw a = shw b) = true := by rw [h]; exact decide_eq_true rfl
end DL

-- K81H
set_option autoImplicit false
namespace K81
open PySem PySem.Spec PyProof.Rows L2 DL TP
section
variable {P : Program} {w : World} {K : PySem.W.Frag} {mg : Str → Option Value} {base : Heap} {xf : XT} {xa : Str → Addr}
abbrev sLawParts : Stmt := topS 47
abbrev nLawParts : List Str := ["row"]
theorem scLawParts : FnScope nLawParts ["row"] (defScope sLawParts) := ⟨rfl, rfl, rfl, by decide +kernel, rfl, by decide +kernel, by decide +kernel⟩
def PLawParts : PD := fun rs Qd _ => ∃ r : TP.Row, ∃ v, r.Ok v ∧ rs = [.da r.enc] ∧ Qd (.list (r.uses.map natD))
theorem c__law_parts (T : TxtF K mg "_law_parts" sLawParts ["row"]) (B : Blt mg) : CalG P w K mg base false 1 "_law_parts" ["row"] (spD K xf PLawParts) := by
  have m_list := B.list
  refine T.okD (xf := xf) (k := 0) scLawParts (fun rs Qd Ed hp => ?_) fun f cdv A outer s H Hd E rs Qd Ed hr hgd xw hp => ?_
  · obtain ⟨r, v, _, rfl, _⟩ := hp; rfl
  refine ⟨_, (ss_one (s_ret (q_if (t_bin (o_eq rfl) (pt_cmpR (op_eqU hr.units) (q_ixV rfl (pe_ix ix_seq (pv 0) q_int (fun _ _ => rfl))) q_str (nomark _))) (q_lst a_nil) (q_b (n_list rfl) (pe_callTy call_list_of (by rfl) m_list PyProof.Rows.boot_list (a_cons (q_sl rfl (q_var (pv 0)) (po_s q_int) po_n) a_nil)))))), ?_⟩
  obtain ⟨r, v, ok, rfl, q⟩ := hp
  cases r with
  | num a b => exact q
  | op k us =>
    rcases ok with ⟨rfl, u, hu, rfl⟩ | ⟨hk, u, w, hu, hw, rfl⟩
    · exact q
    · rcases hk with rfl | rfl | rfl | rfl <;> exact q
abbrev sLawLives : Stmt := topS 48
abbrev nLawLives : List Str := ["tape", "inputs", "rows", "outs", "last", "at", "row", "part", "end"]
theorem scLawLives : FnScope nLawLives ["tape"] (defScope sLawLives) := ⟨rfl, rfl, rfl, by decide +kernel, rfl, by decide +kernel, by decide +kernel⟩
def PLawLives : PD := fun rs Qd _ => ∃ t : Tape, t.Ok ∧ rs = [.da t.enc] ∧ Qd (.list (t.lives.map fun p => .tuple (lifeL p)))
theorem c__law_lives (T : TxtF K mg "_law_lives" sLawLives ["tape"]) (B : Blt mg) (c__law_parts : CalG P w K mg base false 1 "_law_parts" ["row"] (spD K xf PLawParts)) : CalG P w K mg base false 2 "_law_lives" ["tape"] (spD K xf PLawLives) := by
  have m_range := B.range
  have m_len := B.len
  have m_enumerate := B.enumerate
  have m_max := B.max
  refine T.okD (xf := xf) (k := 1) scLawLives (fun rs Qd Ed hp => ?_) fun f cdv A outer s H Hd E rs Qd Ed hr hgd xw hp => ?_
  · obtain ⟨t, _, rfl, _⟩ := hp; rfl
  refine ⟨_, (ss_cons (s_asg (ps_asg (q_var (pv 0)) (g_tup (n := 3) rfl rfl (g_cons (g_name (pg_name (i := 1) scLawLives.nd rfl (by first | exact .inl rfl | exact .inr rfl))) (g_cons (g_name (pg_name (i := 2) scLawLives.nd rfl (by first | exact .inl rfl | exact .inr rfl))) (g_cons (g_name (pg_name (i := 3) scLawLives.nd rfl (by first | exact .inl rfl | exact .inr rfl))) g_nil)))))) (ss_cons (s_setLc (is := [5]) (js := [5]) (by decide) (ps_setLc (i := 4) (own := [("at", 5)]) rfl scLawLives.nd rfl rfl (sw_true rfl rfl rfl (by decide +kernel)) (i_rng1 (pi_range1 rfl m_range (a_cons (q_lenV rfl (pe_callB call_len (by rfl) m_len PySem.boot_len (pa_cons (pv 2) pa_nil))) a_nil))) (blkOk_by (N := nLawLives) (sc := defScope sLawLives) (by decide +kernel)) (fun _ _ _ _ _ => (g_name (pg_name (i := 5) scLawLives.nd rfl (by first | exact .inl rfl | exact .inr rfl)))) (fun _ _ _ _ _ => yes_le) (fun _ _ _ _ _ => (q_bin (o_add rfl) (pe_op op_addU (q_var (pv 5)) q_int))))) (ss_cons (s_for (ps_for (passes_of rfl) rfl (i_enum rfl (pi_enumA (by rfl) m_enumerate (a_cons (q_var (pv 2)) a_nil))) (g_tup (n := 2) rfl rfl (g_cons (g_name (pg_name (i := 5) scLawLives.nd rfl (by first | exact .inl rfl | exact .inr rfl))) (g_cons (g_name (pg_name (i := 6) scLawLives.nd rfl (by first | exact .inl rfl | exact .inr rfl))) g_nil))) (ss_one (s_for (ps_for (passes_of rfl) rfl (i_seq rfl (q_call xw (pe_gc c__law_parts hr (by decide) (fun z => nomatch z) (by rfl) (takes_of rfl rfl rfl rfl) (a_cons (q_var (pv 6)) a_nil)))) (g_name (pg_name (i := 7) scLawLives.nd rfl (by first | exact .inl rfl | exact .inr rfl))) (ss_one (s_if (t_bin o_ge (pt_cmpR op_ge (q_var (pv 7)) (q_var (pv 1)) (nomark _))) (ss_one (s_setV (ps_asg (q_b n_max2 (pe_callB (call_max2 rfl) (by rfl) m_max PyProof.Rows.boot_max (a_cons (q_ixV rfl (pe_ix ix_seq (pv 4) (q_bin o_sub (pe_op op_sub (q_var (pv 7)) (q_var (pv 1)))) (fun _ _ => rfl))) (a_cons (q_var (pv 5)) a_nil)))) (pg_sub (pv 4) (q_bin o_sub (pe_op op_sub (q_var (pv 7)) (q_var (pv 1)))) set_list)))) ss_nil))))))) (ss_one (s_ret (q_lc (is := [5, 8]) (js := [5, 8]) (by decide) (pe_lc (own := [("at", 5), ("end", 8)]) rfl scLawLives.nd (i_enum rfl (pi_enumA (by rfl) m_enumerate (a_cons (q_var (pv 4)) a_nil))) (blkOk_by (N := nLawLives) (sc := defScope sLawLives) (by decide +kernel)) (fun _ _ _ _ _ => (g_tup (n := 2) rfl rfl (g_cons (g_name (pg_name (i := 5) scLawLives.nd rfl (by first | exact .inl rfl | exact .inr rfl))) (g_cons (g_name (pg_name (i := 8) scLawLives.nd rfl (by first | exact .inl rfl | exact .inr rfl))) g_nil)))) (fun _ _ _ _ _ => yes_le) (fun _ _ _ _ _ => (q_tup (a_cons (q_bin (o_add rfl) (pe_op op_addU (q_var (pv 5)) q_int)) (a_cons (q_if (t_bin (o_in rfl) (pt_cmpR op_in_seq (q_bin (o_add rfl) (pe_op op_addU (q_var (pv 1)) (q_var (pv 5)))) (q_var (pv 3)) (by rfl))) (q_lenV rfl (pe_callB call_len (by rfl) m_len PySem.boot_len (pa_cons (pv 2) pa_nil))) (q_var (pv 8))) a_nil))))))))))), ?_⟩
  obtain ⟨t, ok, rfl, q⟩ := hp
  have h64 : t.rows.length ≤ 400 := ok.rl
  have lr : (t.rows.map Row.enc).length = t.rows.length := List.length_map _
  (conv => whnf)
  refine cnd_t (ble_t (by simp only [Int.natAbs_natCast]; omega)) ?_
  (conv => whnf)
  refine cnd_t (szle (by rw [rgS_len, Int.toNat_natCast, lr]; omega)) ?_
  refine lcGo_rng1 (ρ := [_, _, _, _, _, _, _, _, _]) (fun j => natD (0 + j + 1)) (fun j hj acc W hW => ?_) ?_
  · (conv => whnf)
    rw [natD_add, natD_add'] at hW
    exact hW
  rw [Int.toNat_natCast, lr]
  have e0 : (List.range t.rows.length).map (fun j => natD (0 + j + 1)) = (lasts0 t.rows.length).map natD := by
    unfold lasts0; rw [List.map_map]; apply List.map_congr_left; intro j _; show natD (0 + j + 1) = natD (j + 1); rw [Nat.zero_add]
  rw [e0]
  (conv => whnf)
  refine forGo_enum (fun k rs ρ => ∃ ls a b c, ρ = [.da t.enc, .da (.int (t.n : Nat)), .da (.tuple (t.rows.map Row.enc)), .da (.tuple (t.outs.map natD)), .ow (.l (List.map natD ls)), a, b, c, .un] ∧
    useRows t.n k rs ls = t.lasts1 ∧ ls.length = t.rows.length ∧ RowsOk (t.n + k) rs ∧ k + rs.length = t.rows.length) ?_ ?_ _ _ _ ⟨_, _, _, _, rfl, rfl, lasts0_length, ok.rs, Nat.zero_add _⟩
  · rintro k r rs ρ W hW ⟨ls, a, b, c, rfl, h1, h2, ⟨h3, h4⟩, h5⟩
    (conv => whnf)
    refine ⟨r, _, h3, rfl, ?_⟩
    (conv => whnf)
    rw [List.map_map]
    refine forGo_ind (fun us ρ => ∃ ls c, ρ = [.da t.enc, .da (.int (t.n : Nat)), .da (.tuple (t.rows.map Row.enc)), .da (.tuple (t.outs.map natD)), .ow (.l (List.map natD ls)), .da (.int (k : Nat)), .da r.enc, c, .un] ∧
      useRows t.n (k + 1) rs (us.foldl (useAt t.n k) ls) = t.lasts1 ∧ ls.length = t.rows.length ∧ ∀ u ∈ us, u < t.n + k) ?_ ?_ _ _ ⟨ls, _, rfl, h1, h2, h3.uses⟩
    · rintro u us ρ W hW ⟨ls, c, rfl, h1, h2, h6⟩
      have hu := h6 u (by simp)
      (conv => whnf)
      refine cnd_of (fun g => ?_) fun g => ?_
      · have g := of_decide_eq_true g
        have hl : u - t.n < ls.length := by simp only [List.length_cons] at h5; omega
        have eu : (u : Int) - (t.n : Int) = ((u - t.n : Nat) : Int) := by omega
        (conv => whnf)
        refine someQ_of (atD_nat eu (natD_get hl)) ?_
        (conv => whnf)
        refine someQ_of (ixN_nat eu (by rw [List.length_map]; exact hl)) ?_
        have z : (ls.map natD).set (u - t.n) (.int (if (k : Int) > (ls.getD (u - t.n) 0 : Nat) then (k : Int) else (ls.getD (u - t.n) 0 : Nat))) = (useAt t.n k ls u).map natD := by
          rw [max_nat, useAt, if_pos (by omega), List.map_set]; rfl
        exact hW _ ⟨useAt t.n k ls u, _, by rw [← z]; rfl, h1, by rw [useAt_length]; exact h2, fun x hx => h6 x (by simp [hx])⟩
      · have g := of_decide_eq_false g
        refine hW _ ⟨ls, _, rfl, ?_, h2, fun x hx => h6 x (by simp [hx])⟩
        rw [List.foldl_cons, useAt, if_neg (by omega)] at h1
        exact h1
    · rintro ρ ⟨ls, c, rfl, h1, h2, -⟩
      exact hW _ ⟨ls, _, _, _, rfl, h1, h2, h4, by rw [List.length_cons] at h5; omega⟩
  · rintro k ρ ⟨ls, a, b, c, rfl, h1, h2, -, -⟩
    rw [show ls = t.lasts1 from h1]
    (conv => whnf)
    refine cnd_t (szle (by rw [enS_length, List.length_map, lasts1_length]; omega)) ?_
    refine lcGo_enum (ρ := [_, _, _, _, _, _, _, _, _]) (lifeF t) t.lasts1 _ _ _ rfl (fun j l hl acc W hW => ?_) ?_
    · (conv => whnf)
      refine ⟨⟨rfl, by rw [List.all_map]; exact List.all_eq_true.mpr fun _ _ => rfl⟩, ?_⟩
      (conv => whnf)
      have em : ((t.outs.map natD).any fun z => PyData.eqv z (.int ((t.n : Int) + (j : Int)))) = decide (t.n + j ∈ t.outs) := by
        rw [List.any_map, Bool.eq_iff_iff, List.any_eq_true, decide_eq_true_iff]
        constructor
        · rintro ⟨x, hx, e⟩
          have e : decide ((x : Int) = (t.n : Int) + (j : Int)) = true := by simpa [natD, PyData.eqv] using e
          have : x = t.n + j := by have := of_decide_eq_true e; omega
          exact this ▸ hx
        · intro h
          exact ⟨_, h, by simp [natD, PyData.eqv]⟩
      refine cnd_of (fun g => ?_) fun g => ?_
      · rw [em] at g
        rw [lifeF, if_pos (of_decide_eq_true g)] at hW
        (conv => whnf)
        rw [lr]
        exact hW
      · rw [em] at g
        rw [lifeF, if_neg (of_decide_eq_false g)] at hW
        (conv => whnf)
        exact hW
    rw [List.nil_append, lives_enF]
    exact q
abbrev sLawLoads : Stmt := topS 49
abbrev nLawLoads : List Str := ["tape", "lives", "life", "moment"]
theorem scLawLoads : FnScope nLawLoads ["tape"] (defScope sLawLoads) := ⟨rfl, rfl, rfl, by decide +kernel, rfl, by decide +kernel, by decide +kernel⟩
def PLawLoads : PD := fun rs Qd _ => ∃ t : Tape, t.Ok ∧ rs = [.da t.enc] ∧ Qd (.list (t.loads.map natD))
theorem c__law_loads (T : TxtF K mg "_law_loads" sLawLoads ["tape"]) (B : Blt mg) (c__law_lives : CalG P w K mg base false 2 "_law_lives" ["tape"] (spD K xf PLawLives)) : CalG P w K mg base false 3 "_law_loads" ["tape"] (spD K xf PLawLoads) := by
  have m_range := B.range
  have m_len := B.len
  refine T.okD (xf := xf) (k := 2) scLawLoads (fun rs Qd Ed hp => ?_) fun f cdv A outer s H Hd E rs Qd Ed hr hgd xw hp => ?_
  · obtain ⟨t, _, rfl, _⟩ := hp; rfl
  refine ⟨_, (ss_cons (s_set (ps_set (i := 1) scLawLoads.nd rfl (by first | exact .inl rfl | exact .inr rfl) (q_call xw (pe_gc c__law_lives hr (by decide) (fun z => nomatch z) (by rfl) (takes_of rfl rfl rfl rfl) (a_cons (q_var (pv 0)) a_nil))))) (ss_one (s_ret (q_lc (is := [3]) (js := [3]) (by decide) (pe_lc (own := [("moment", 3)]) rfl scLawLoads.nd (i_rng1 (pi_range1 rfl m_range (a_cons (q_bin (o_add rfl) (pe_op op_addU (q_b (n_len rfl) (pe_callB call_len (by rfl) m_len PySem.boot_len (a_cons (q_ixV rfl (pe_ix ix_seq (pv 0) q_int (fun _ _ => rfl))) a_nil))) q_int)) a_nil))) (blkOk_by (N := nLawLoads) (sc := defScope sLawLoads) (by decide +kernel)) (fun _ _ _ _ _ => (g_name (pg_name (i := 3) scLawLoads.nd rfl (by first | exact .inl rfl | exact .inr rfl)))) (fun _ _ _ _ _ => yes_le) (fun _ _ _ _ _ => (q_b (n_len rfl) (pe_callB call_len (by rfl) m_len PySem.boot_len (a_cons (q_lc (is := [2]) (js := [2]) (by decide) (pe_lc (own := [("life", 2)]) rfl scLawLoads.nd (i_seq rfl (q_var (pv 1))) (blkOk_by (by kernel_rfl)) (fun _ _ _ _ _ => (g_name (pg_name (i := 2) scLawLoads.nd rfl (by first | exact .inl rfl | exact .inr rfl)))) (fun _ _ _ _ _ => pts_one (t_chain o_le o_le (pt_chain op_le op_le (q_ixV rfl (pe_ix ix_seq (pv 2) q_int (fun _ _ => rfl))) (q_var (pv 3)) (q_ixV rfl (pe_ix ix_seq (pv 2) q_int (fun _ _ => rfl)))))) (fun _ _ _ _ _ => (q_var (pv 2))))) a_nil))))))))), ?_⟩
  obtain ⟨t, ok, rfl, q⟩ := hp
  have h64 : t.rows.length ≤ 400 := ok.rl
  have lr : (t.rows.map Row.enc).length = t.rows.length := List.length_map _
  (conv => whnf)
  refine ⟨t, ok, rfl, ?_⟩
  (conv => whnf)
  refine cnd_t (ble_t (by rw [lr]; omega)) ?_
  (conv => whnf)
  refine cnd_t (szle (by rw [rgS_len, lr]; omega)) ?_
  refine lcGo_rng1 (ρ := [_, _, _, _]) (fun mo => natD (loadN t.lives mo)) (fun mo hmo acc W hW => ?_) ?_
  · (conv => whnf)
    refine cnd_t (szle (by rw [List.length_map, List.length_map, lives_length]; omega)) ?_
    rw [List.map_map]
    refine lcGo_map (ρ := [_, _, _, _]) (fun p => if p.1 ≤ mo ∧ mo ≤ p.2 then some (.tuple (lifeL p)) else none) _ _ (fun p hp acc W hW => ?_) ?_
    · (conv => whnf)
      refine cnd_of (fun g => ?_) fun g => ?_
      · have g := of_decide_eq_true g
        (conv => whnf)
        refine cnd_of (fun g2 => ?_) fun g2 => ?_
        · have g2 := of_decide_eq_true g2
          rw [if_pos (by omega)] at hW
          (conv => whnf)
          exact hW
        · have g2 := of_decide_eq_false g2
          rw [if_neg (by omega)] at hW
          (conv => whnf)
          exact hW
      · have g := of_decide_eq_false g
        rw [if_neg (by omega)] at hW
        (conv => whnf)
        exact hW
    rw [List.nil_append]
    have e := loads_filter (mo := mo) t.lives
    rw [← e] at hW
    (conv => whnf)
    exact hW
  have e1 : (((t.rows.map Row.enc).length : Nat) + 1 : Int).toNat = t.rows.length + 1 := by rw [lr]; omega
  rw [e1]
  have e2 : (List.range (t.rows.length + 1)).map (fun mo => natD (loadN t.lives mo)) = t.loads.map natD := by unfold Tape.loads; rw [List.map_map]; rfl
  rw [e2]
  exact q
abbrev sLawBoxes : Stmt := topS 50
abbrev nLawBoxes : List Str := ["tape", "lives", "found", "at", "life", "taken", "box", "less"]
theorem scLawBoxes : FnScope nLawBoxes ["tape"] (defScope sLawBoxes) := ⟨rfl, rfl, rfl, by decide +kernel, rfl, by decide +kernel, by decide +kernel⟩
def PLawBoxes : PD := fun rs Qd _ => ∃ t : Tape, t.Ok ∧ rs = [.da t.enc] ∧ Qd (.tuple (t.boxes.map natD))
theorem c__law_boxes (T : TxtF K mg "_law_boxes" sLawBoxes ["tape"]) (B : Blt mg) (c__law_lives : CalG P w K mg base false 2 "_law_lives" ["tape"] (spD K xf PLawLives)) : CalG P w K mg base false 3 "_law_boxes" ["tape"] (spD K xf PLawBoxes) := by
  have m_enumerate := B.enumerate
  have m_range := B.range
  have m_tuple := B.tuple
  refine T.okD (xf := xf) (k := 2) scLawBoxes (fun rs Qd Ed hp => ?_) fun f cdv A outer s H Hd E rs Qd Ed hr hgd xw hp => ?_
  · obtain ⟨t, _, rfl, _⟩ := hp; rfl
  refine ⟨_, (ss_cons (s_parC (is := [1, 2]) (ps_asg (pe_tup (a_cons (q_call xw (pe_gc c__law_lives hr (by decide) (fun z => nomatch z) (by rfl) (takes_of rfl rfl rfl rfl) (a_cons (q_var (pv 0)) a_nil))) (a_cons (q_lst a_nil) a_nil))) (pg_tup rfl (pgs_cons (pg_name (i := 1) scLawBoxes.nd rfl (by first | exact .inl rfl | exact .inr rfl)) (pgs_cons (pg_name (i := 2) scLawBoxes.nd rfl (by first | exact .inl rfl | exact .inr rfl)) pgs_nil))))) (ss_cons (s_for (ps_for (passes_of rfl) rfl (i_enum rfl (pi_enumA (by rfl) m_enumerate (a_cons (q_var (pv 1)) a_nil))) (g_tup (n := 2) rfl rfl (g_cons (g_name (pg_name (i := 3) scLawBoxes.nd rfl (by first | exact .inl rfl | exact .inr rfl))) (g_cons (g_name (pg_name (i := 4) scLawBoxes.nd rfl (by first | exact .inl rfl | exact .inr rfl))) g_nil))) (ss_cons (s_par (by decide) (ps_par (i := 5) (j := 6) rfl scLawBoxes.nd rfl rfl (by decide) rfl rfl (a_cons (q_fz (q_lc (is := [7]) (js := [7]) (by decide) (pe_lc (own := [("less", 7)]) rfl scLawBoxes.nd (i_rng1 (pi_range1 rfl m_range (a_cons (q_var (pv 3)) a_nil))) (blkOk_by (N := nLawBoxes) (sc := defScope sLawBoxes) (by decide +kernel)) (fun _ _ _ _ _ => (g_name (pg_name (i := 7) scLawBoxes.nd rfl (by first | exact .inl rfl | exact .inr rfl)))) (fun _ _ _ _ _ => pts_one (t_bin o_ge (pt_cmpR op_ge (q_bin (o_ix rfl) (pe_ix ix_seq (q_ixV rfl (pe_ix ix_seq (pv 1) (q_var (pv 7)) (fun _ _ => rfl))) q_int (fun _ _ => rfl))) (q_ixV rfl (pe_ix ix_seq (pv 4) q_int (fun _ _ => rfl))) (nomark _)))) (fun _ _ _ _ _ => (q_ixV rfl (pe_ix ix_seq (pv 2) (q_var (pv 7)) (fun _ _ => rfl))))))) (a_cons q_int a_nil)) (by rfl))) (ss_cons (s_while (ps_while (passes_of rfl) (t_bin (o_in rfl) (pt_cmpR op_in_seq (q_var (pv 6)) (q_var (pv 5)) (by rfl))) (ss_one (s_set (ps_set (i := 6) scLawBoxes.nd rfl (by first | exact .inl rfl | exact .inr rfl) (q_fz (q_bin (o_add rfl) (pe_op op_addU (q_var (pv 6)) q_int)))))))) (ss_one (s_expr (q_app (pe_bm PySem.F.plainAttrs_list PySem.F.slot_list_append PySem.F.type_list_append mt_append (pv 2) (a_cons (q_var (pv 6)) a_nil))))))))) (ss_one (s_ret (q_b (n_tuple rfl) (pe_callTy call_tuple_of (by rfl) m_tuple PyProof.Rows.boot_tuple (a_cons (q_var (pv 2)) a_nil))))))), ?_⟩
  obtain ⟨t, ok, rfl, q⟩ := hp
  have h64 : t.rows.length ≤ 400 := ok.rl
  (conv => whnf)
  refine ⟨t, ok, rfl, ?_⟩
  (conv => whnf)
  have gl : ∀ j, j < t.rows.length → (t.lives.map fun p => PyData.tuple (lifeL p))[j]? = some (.tuple (lifeL (t.lives.getD j (0, 0)))) := fun j hj => by
    have hj : j < t.lives.length := by rw [lives_length]; exact hj
    rw [List.getElem?_map, List.getD_eq_getElem?_getD, List.getElem?_eq_getElem hj]; rfl
  refine forGo_enum (fun n rest ρ => ∃ a b c e, n ≤ t.rows.length ∧ ρ = [.da t.enc, .da (.list (t.lives.map fun p => PyData.tuple (lifeL p))), .ow (.l ((grd t.lives n).map natD)), a, b, c, e, .un] ∧ t.lives.drop n = rest) ?_ ?_ _ _ _ ⟨_, _, _, _, Nat.zero_le _, rfl, rfl⟩
  · rintro n p rest ρ W hW ⟨a, b, c, e, -, rfl, hd⟩
    have hn : t.lives[n]? = some p := by have z := congrArg (·[0]?) hd; simpa using z
    have hn2 : n < t.rows.length := by rw [← lives_length]; exact (List.getElem?_eq_some_iff.mp hn).1
    have ep : t.lives.getD n (0, 0) = p := by rw [List.getD_eq_getElem?_getD, hn]; rfl
    (conv => whnf)
    refine cnd_t (ble_t (by simp only [Int.natAbs_natCast]; omega)) ?_
    (conv => whnf)
    refine cnd_t (szle (by rw [rgS_len, Int.toNat_natCast]; omega)) ?_
    refine lcGo_rng (ρ := [_, _, _, _, _, _, _, _]) (fun j => if lat t.lives n j then some (natD ((grd t.lives n).getD j 0)) else none) (fun j hj acc W hW => ?_) ?_
    · have hj : j < n := by rw [Int.toNat_natCast] at hj; exact hj
      have el : decide ((p.1 : Int) ≤ ((t.lives.getD j (0, 0)).2 : Nat)) = lat t.lives n j := by unfold lat; rw [ep]; exact decide_eq_decide.mpr (by omega)
      (conv => whnf)
      refine someQ_of (atD_nat (k := j) (by omega) (gl j (by omega))) ?_
      (conv => whnf)
      rw [el]
      refine cnd_of (fun c => ?_) fun c => ?_
      · rw [c, if_pos rfl] at hW
        (conv => whnf)
        refine someQ_of (atD_nat (k := j) (by omega) (natD_get (by rw [grd_length]; exact hj))) ?_
        (conv => whnf)
        exact hW
      · rw [c, if_neg Bool.false_ne_true] at hW
        (conv => whnf)
        exact hW
    rw [Int.toNat_natCast, filterMap_if]
    have et2 : (List.filter (lat t.lives n) (List.range n)).map (fun j => natD ((grd t.lives n).getD j 0)) = (takenAt t.lives (grd t.lives n) n).map natD := by unfold takenAt; rw [List.map_map]; rfl
    rw [et2]
    obtain ⟨m1, m2⟩ := mex_spec (takenAt t.lives (grd t.lives n) n)
    have ez : grd t.lives (n + 1) = grd t.lives n ++ [mex (takenAt t.lives (grd t.lives n) n)] := rfl
    generalize takenAt t.lives (grd t.lives n) n = tk at m1 m2 ez
    (conv => whnf)
    refine ⟨fun k ρ => ∃ (bx : Nat) (s : Sl), ρ = [.da t.enc, .da (.list (t.lives.map fun p => PyData.tuple (lifeL p))), .ow (.l ((grd t.lives n).map natD)), .da (natD n), .da (.tuple (lifeL p)), s, .da (natD bx), .un] ∧ (s = .ow (.l (tk.map natD)) ∨ s = .da (.list (tk.map natD))) ∧ bx + k = mex tk, ⟨_, 0, _, rfl, .inr rfl, Nat.zero_add _⟩, ?_⟩
    rintro k ρ ⟨bx, s, rfl, hs, hb⟩
    have fin : ∀ c : tk.contains bx = false, W [.da t.enc, .da (.list (t.lives.map fun p => PyData.tuple (lifeL p))), .ow (.l ((grd t.lives n).map natD ++ [natD bx])), .da (natD n), .da (.tuple (lifeL p)), .da (.list (tk.map natD)), .da (natD bx), .un] := by
      intro c
      have c : bx ∉ tk := fun z => by rw [List.contains_iff_mem.mpr z] at c; cases c
      have e : bx = mex tk := by
        rcases Nat.lt_or_ge bx (mex tk) with z | z
        · exact absurd (m2 _ z) c
        · omega
      have z : (grd t.lives (n + 1)).map natD = (grd t.lives n).map natD ++ [natD bx] := by rw [ez, List.map_append, ← e]; rfl
      rw [← z]
      exact hW _ ⟨_, _, _, _, hn2, rfl, (drop_at hd).2.2⟩
    rcases hs with rfl | rfl
    · (conv => whnf)
      refine ⟨⟨rfl, flat_nat _⟩, ?_⟩
      (conv => whnf)
      rw [any_natD]
      refine cnd_of (fun c => ?_) fun c => ?_
      · have hb2 : bx ≠ mex tk := fun z => m1 (z ▸ List.contains_iff_mem.mp c)
        (conv => whnf)
        exact ⟨k - 1, by omega, bx + 1, _, rfl, .inr rfl, by omega⟩
      · (conv => whnf)
        refine ⟨by rw [List.length_map, grd_length, sizeLine_eq]; omega, ?_⟩
        exact fin c
    · (conv => whnf)
      refine ⟨⟨rfl, flat_nat _⟩, ?_⟩
      (conv => whnf)
      rw [any_natD]
      refine cnd_of (fun c => ?_) fun c => ?_
      · have hb2 : bx ≠ mex tk := fun z => m1 (z ▸ List.contains_iff_mem.mp c)
        (conv => whnf)
        exact ⟨k - 1, by omega, bx + 1, _, rfl, .inr rfl, by omega⟩
      · (conv => whnf)
        refine ⟨by rw [List.length_map, grd_length, sizeLine_eq]; omega, ?_⟩
        exact fin c
  · rintro n ρ ⟨a, b, c, e, hn, rfl, hd⟩
    have e : t.lives.length ≤ n := by
      rcases Nat.lt_or_ge n t.lives.length with z | z
      · rw [List.drop_eq_getElem_cons z] at hd; cases hd
      · exact z
    rw [lives_length] at e
    obtain rfl : n = t.rows.length := by omega
    exact q
abbrev sLawDrawnBoxes : Stmt := topS 51
abbrev nLawDrawnBoxes : List Str := ["state", "tape", "most", "lives", "found", "at", "life", "taken", "less", "free", "box"]
theorem scLawDrawnBoxes : FnScope nLawDrawnBoxes ["state", "tape", "most"] (defScope sLawDrawnBoxes) := ⟨rfl, rfl, rfl, by decide +kernel, rfl, by decide +kernel, by decide +kernel⟩
def PLawDrawnBoxes : PB := fun o rs Qd _ => ∃ (n : Nat) (t : Tape) (m : Nat), o = .st n ∧ t.Ok ∧ rs = [.da t.enc, .da (natD m)] ∧ t.rows.length < m ∧ m ≤ 1000 ∧ n ≤ 1000000000 ∧
  ∀ (bs : List Nat) n', bs.length = t.rows.length → (∀ b ∈ bs, b < m) → clash t.lives (bs.map toI) 0 t.rows.length = [] → n' ≤ n + 4 * t.rows.length → Qd (.tuple (bs.map natD)) (.st n')
theorem c__law_drawn_boxes (T : TxtF K mg "_law_drawn_boxes" sLawDrawnBoxes ["state", "tape", "most"]) (B : Blt mg) (c__law_lives : CalG P w K mg base false 2 "_law_lives" ["tape"] (spD K xf PLawLives)) (c__law_digit : CalG P w K mg base false 2 "_law_digit" ["state", "below"] (spB K xf PLawDigit)) : CalG P w K mg base false 3 "_law_drawn_boxes" ["state", "tape", "most"] (spB K xf PLawDrawnBoxes) := by
  have m_enumerate := B.enumerate
  have m_range := B.range
  have m_len := B.len
  have m_tuple := B.tuple
  refine T.okB (xf := xf) (k := 2) scLawDrawnBoxes (fun o rs Qd Ed hp => ?_) fun f cdv A outer s H Hd E B0 o rs Qd Ed hr hgd hp => ?_
  · obtain ⟨n, t, m, _, _, rfl, _⟩ := hp; rfl
  refine ⟨_, (ss_cons (s_parC (is := [3, 4]) (ps_asg (pe_tup (a_cons (q_call (xw0 (xf := xf)) (pe_gc0 c__law_lives hr (by decide) (fun z => nomatch z) (by rfl) (a_cons (q_var (pv 1)) a_nil))) (a_cons (q_lst a_nil) a_nil))) (pg_tup rfl (pgs_cons (pg_name (i := 3) scLawDrawnBoxes.nd rfl (by first | exact .inl rfl | exact .inr rfl)) (pgs_cons (pg_name (i := 4) scLawDrawnBoxes.nd rfl (by first | exact .inl rfl | exact .inr rfl)) pgs_nil))))) (ss_cons (s_for (ps_for (passes_of rfl) rfl (i_enum rfl (pi_enumA (by rfl) m_enumerate (a_cons (q_var (pv 3)) a_nil))) (g_tup (n := 2) rfl rfl (g_cons (g_name (pg_name (i := 5) scLawDrawnBoxes.nd rfl (by first | exact .inl rfl | exact .inr rfl))) (g_cons (g_name (pg_name (i := 6) scLawDrawnBoxes.nd rfl (by first | exact .inl rfl | exact .inr rfl))) g_nil))) (ss_cons (s_set (ps_set (i := 7) scLawDrawnBoxes.nd rfl (by first | exact .inl rfl | exact .inr rfl) (q_fz (q_lc (is := [8]) (js := [8]) (by decide) (pe_lc (own := [("less", 8)]) rfl scLawDrawnBoxes.nd (i_rng1 (pi_range1 rfl m_range (a_cons (q_var (pv 5)) a_nil))) (blkOk_by (N := nLawDrawnBoxes) (sc := defScope sLawDrawnBoxes) (by decide +kernel)) (fun _ _ _ _ _ => (g_name (pg_name (i := 8) scLawDrawnBoxes.nd rfl (by first | exact .inl rfl | exact .inr rfl)))) (fun _ _ _ _ _ => pts_one (t_bin o_ge (pt_cmpR op_ge (q_bin (o_ix rfl) (pe_ix ix_seq (q_ixV rfl (pe_ix ix_seq (pv 3) (q_var (pv 8)) (fun _ _ => rfl))) q_int (fun _ _ => rfl))) (q_ixV rfl (pe_ix ix_seq (pv 6) q_int (fun _ _ => rfl))) (nomark _)))) (fun _ _ _ _ _ => (q_ixV rfl (pe_ix ix_seq (pv 4) (q_var (pv 8)) (fun _ _ => rfl))))))))) (ss_cons (s_setLcF (is := [10]) (js := [10]) (by decide) (ps_setLc (i := 9) (own := [("box", 10)]) rfl scLawDrawnBoxes.nd rfl rfl (sw_true rfl rfl rfl (by decide +kernel)) (i_rng1 (pi_range1 rfl m_range (a_cons (q_var (pv 2)) a_nil))) (blkOk_by (N := nLawDrawnBoxes) (sc := defScope sLawDrawnBoxes) (by decide +kernel)) (fun _ _ _ _ _ => (g_name (pg_name (i := 10) scLawDrawnBoxes.nd rfl (by first | exact .inl rfl | exact .inr rfl)))) (fun _ _ _ _ _ => pts_one (t_bin (o_notIn rfl) (pt_cmpR op_notIn_seq (q_var (pv 10)) (q_var (pv 7)) (by rfl)))) (fun _ _ _ _ _ => (q_var (pv 10))))) (ss_one (s_expr (q_app (pe_bm PySem.F.plainAttrs_list PySem.F.slot_list_append PySem.F.type_list_append mt_append (pv 4) (a_cons (q_ixV rfl (pe_ix ix_seq (pv 9) (q_callB rfl (pe_gc0 c__law_digit hr (by decide) (fun z => nomatch z) (by rfl) (pa_cons (pv 0) (a_cons (q_lenV rfl (pe_callB call_len (by rfl) m_len PySem.boot_len (pa_cons (pv 9) pa_nil))) a_nil)))) (fun _ _ => rfl))) a_nil))))))))) (ss_one (s_ret (q_b (n_tuple rfl) (pe_callTy call_tuple_of (by rfl) m_tuple PyProof.Rows.boot_tuple (a_cons (q_var (pv 4)) a_nil))))))), ?_⟩
  obtain ⟨s0, t, m, rfl, ok, rfl, hm, hm2, hs0, q⟩ := hp
  have h64 : t.rows.length ≤ 400 := ok.rl
  (conv => whnf)
  refine ⟨t, ok, rfl, ?_⟩
  (conv => whnf)
  have gl : ∀ j, j < t.rows.length → (t.lives.map fun p => PyData.tuple (lifeL p))[j]? = some (.tuple (lifeL (t.lives.getD j (0, 0)))) := fun j hj => by
    have hj : j < t.lives.length := by rw [lives_length]; exact hj
    rw [List.getElem?_map, List.getD_eq_getElem?_getD, List.getElem?_eq_getElem hj]; rfl
  refine forGo_enum (fun n rest ρ => ∃ (n1 : Nat) (bs : List Nat) (a b c d : Sl), n ≤ t.rows.length ∧ n1 ≤ s0 + 4 * n ∧ bs.length = n ∧ (∀ b ∈ bs, b < m) ∧ clash t.lives (bs.map toI) 0 n = [] ∧
    ρ = [.bo (.st n1), .da t.enc, .da (natD m), .da (.list (t.lives.map fun p => PyData.tuple (lifeL p))), .ow (.l (bs.map natD)), a, b, c, .un, d, .un] ∧ t.lives.drop n = rest) ?_ ?_ _ _ _ ⟨_, [], _, _, _, _, Nat.zero_le _, Nat.le_refl _, rfl, (fun _ h => absurd h List.not_mem_nil), rfl, rfl, rfl⟩
  · rintro n p rest ρ W hW ⟨n1, bs, a, b, c, d, -, k1, k2, k3, k4, rfl, hd⟩
    obtain ⟨hn, hn2, hd2⟩ := drop_at hd
    rw [lives_length] at hn2
    have ep : t.lives.getD n (0, 0) = p := by rw [List.getD_eq_getElem?_getD, hn]; rfl
    (conv => whnf)
    refine cnd_t (ble_t (by simp only [Int.natAbs_natCast]; omega)) ?_
    (conv => whnf)
    refine cnd_t (szle (by rw [rgS_len, Int.toNat_natCast]; omega)) ?_
    refine lcGo_rng (ρ := [_, _, _, _, _, _, _, _, _, _, _]) (fun j => if lat t.lives n j then some (natD (bs.getD j 0)) else none) (fun j hj acc W hW => ?_) ?_
    · have hj : j < n := by rw [Int.toNat_natCast] at hj; exact hj
      have el : decide ((p.1 : Int) ≤ ((t.lives.getD j (0, 0)).2 : Nat)) = lat t.lives n j := by unfold lat; rw [ep]; exact decide_eq_decide.mpr (by omega)
      (conv => whnf)
      refine someQ_of (atD_nat (k := j) (by omega) (gl j (by omega))) ?_
      (conv => whnf)
      rw [el]
      refine cnd_of (fun c => ?_) fun c => ?_
      · rw [c, if_pos rfl] at hW
        (conv => whnf)
        refine someQ_of (atD_nat (k := j) (by omega) (natD_get (by rw [k2]; exact hj))) ?_
        (conv => whnf)
        exact hW
      · rw [c, if_neg Bool.false_ne_true] at hW
        (conv => whnf)
        exact hW
    rw [Int.toNat_natCast, filterMap_if]
    have et2 : (List.filter (lat t.lives n) (List.range n)).map (fun j => natD (bs.getD j 0)) = (takenAt t.lives bs n).map natD := by unfold takenAt; rw [List.map_map]; rfl
    rw [et2]
    have tl : (takenAt t.lives bs n).length ≤ n := by
      unfold takenAt; rw [List.length_map]; exact Nat.le_trans (List.length_filter_le _ _) (by simp)
    have tm : ∀ x, x ∈ takenAt t.lives bs n ↔ ∃ l, l < n ∧ lat t.lives n l = true ∧ bs.getD l 0 = x := fun x => takenAt_mem
    generalize takenAt t.lives bs n = tk at tl tm
    (conv => whnf)
    refine cnd_t (ble_t (by simp only [Int.natAbs_natCast]; omega)) ?_
    (conv => whnf)
    refine cnd_t (szle (by rw [rgS_len, Int.toNat_natCast]; omega)) ?_
    refine lcGo_rng (ρ := [_, _, _, _, _, _, _, _, _, _, _]) (fun x => if !tk.contains x then some (natD x) else none) (fun x hx acc W hW => ?_) ?_
    · (conv => whnf)
      refine ⟨⟨rfl, flat_nat _⟩, ?_⟩
      (conv => whnf)
      have e : ((tk.map natD).any fun z => PyData.eqv z (.int (0 + (x : Nat)))) = tk.contains x := by rw [Int.zero_add]; exact any_natD
      rw [e]
      cases c : tk.contains x with
      | true =>
        rw [c, Bool.not_true, if_neg Bool.false_ne_true] at hW
        (conv => whnf)
        exact hW
      | false =>
        rw [c, Bool.not_false, if_pos rfl] at hW
        (conv => whnf)
        rw [show natD x = .int (0 + (x : Nat)) by rw [Int.zero_add]; rfl] at hW
        exact hW
    rw [Int.toNat_natCast, filterMap_if]
    have fl : (List.filter (fun x => !tk.contains x) (List.range m)).length ≤ m := Nat.le_trans (List.length_filter_le _ _) (by simp)
    have f0 : 0 < (List.filter (fun x => !tk.contains x) (List.range m)).length := by
      refine List.length_pos_of_mem (a := mex tk) (List.mem_filter.mpr ⟨List.mem_range.mpr ?_, ?_⟩)
      · have := mex_le tk; omega
      · have := (mex_spec tk).1; simpa using this
    have fm : ∀ x ∈ List.filter (fun x => !tk.contains x) (List.range m), x < m ∧ x ∉ tk := fun x hx => by
      rw [List.mem_filter, List.mem_range] at hx
      exact ⟨hx.1, by simpa using hx.2⟩
    generalize List.filter (fun x => !tk.contains x) (List.range m) = fr at fl f0 fm
    (conv => whnf)
    refine ⟨n1, _, rfl, rfl, by omega, by rw [List.length_map]; omega, by rw [List.length_map]; omega, fun r r0 r1 => ?_⟩
    obtain ⟨r, rfl⟩ := int_nat r0
    have r1 : r < fr.length := by rw [List.length_map] at r1; omega
    (conv => whnf)
    refine someQ_of (atD_nat (k := r) rfl (natD_get r1)) ?_
    (conv => whnf)
    refine ⟨by rw [List.length_map, k2, sizeLine_eq]; omega, ?_⟩
    have rm : fr.getD r 0 ∈ fr := by rw [List.getD_eq_getElem?_getD, List.getElem?_eq_getElem r1]; exact List.getElem_mem _
    obtain ⟨g1, g2⟩ := fm _ rm
    have z : (bs ++ [fr.getD r 0]).map natD = bs.map natD ++ [natD (fr.getD r 0)] := by rw [List.map_append]; rfl
    refine hW _ ⟨n1 + 4, bs ++ [fr.getD r 0], _, _, _, _, hn2, by omega, by simp [k2], fun x hx => ?_, ?_, by rw [z]; rfl, hd2⟩
    · rcases List.mem_append.mp hx with y | y
      · exact k3 x y
      · rw [List.mem_singleton.mp y]; exact g1
    · rw [List.map_append]
      refine clash_snoc (by rw [List.length_map, k2]) k4 fun l hl hla => ?_
      have e : (bs.map toI).getD l 0 = toI (bs.getD l 0) := by
        rw [List.getD_eq_getElem?_getD, List.getElem?_map, List.getD_eq_getElem?_getD]; cases bs[l]? <;> rfl
      rw [e]
      intro y
      refine g2 ((tm _).mpr ⟨l, hl, hla, ?_⟩)
      unfold toI at y
      omega
  · rintro n ρ ⟨n1, bs, a, b, c, d, hn, k1, k2, k3, k4, rfl, hd⟩
    have e := drop_end hd
    rw [lives_length] at e
    obtain rfl : n = t.rows.length := by omega
    exact q bs n1 k2 k3 k4 k1
abbrev sLawWrong : Stmt := topS 53
abbrev nLawWrong : List Str := ["tape", "thing", "at", "box", "lives", "both", "less"]
theorem scLawWrong : FnScope nLawWrong ["tape", "thing"] (defScope sLawWrong) := ⟨rfl, rfl, rfl, by decide +kernel, rfl, by decide +kernel, by decide +kernel⟩
def PLawWrong : PD := fun rs Qd _ => ∃ t : Tape, ∃ d, t.Ok ∧ rs = [.da t.enc, .da d] ∧ Qd (.list (t.wrongB d))
theorem c__law_wrong (T : TxtF K mg "_law_wrong" sLawWrong ["tape", "thing"]) (B : Blt mg) (c__law_lives : CalG P w K mg base false 2 "_law_lives" ["tape"] (spD K xf PLawLives)) : CalG P w K mg base false 3 "_law_wrong" ["tape", "thing"] (spD K xf PLawWrong) := by
  have m_len := B.len
  have m_isinstance := B.isinstance
  have m_tuple := B.tuple
  have m_enumerate := B.enumerate
  have m_int := B.int
  have m_bool := B.bool
  have m_range := B.range
  refine T.okD (xf := xf) (k := 2) scLawWrong (fun rs Qd Ed hp => ?_) fun f cdv A outer s H Hd E rs Qd Ed hr hgd xw hp => ?_
  · obtain ⟨t, d, _, rfl, _⟩ := hp; rfl
  refine ⟨_, (ss_cons (s_if (t_w (w_or (t_not (t_val (q_isi rfl (fun _ _ _ _ h => k_tuple h) (pe_callB call_isi (by rfl) m_isinstance PyProof.Rows.boot_isinstance (pa_cons (q_var (pv 1)) (pa_cons (pe_bltn (by rfl) m_tuple PyProof.Rows.boot_tuple rfl) pa_nil)))))) (w_or1 (t_bin (o_ne rfl) (pt_cmpR (op_neU hr.units) (q_lenV rfl (pe_callB call_len (by rfl) m_len PySem.boot_len (pa_cons (pv 1) pa_nil))) (q_b (n_len rfl) (pe_callB call_len (by rfl) m_len PySem.boot_len (a_cons (q_ixV rfl (pe_ix ix_seq (pv 0) q_int (fun _ _ => rfl))) a_nil))) (nomark _)))))) (ss_one (s_ret (q_lst (a_cons q_non a_nil)))) ss_nil) (ss_cons (s_for (ps_for (passes_of rfl) rfl (i_enum rfl (pi_enumA (by rfl) m_enumerate (a_cons (q_var (pv 1)) a_nil))) (g_tup (n := 2) rfl rfl (g_cons (g_name (pg_name (i := 2) scLawWrong.nd rfl (by first | exact .inl rfl | exact .inr rfl))) (g_cons (g_name (pg_name (i := 3) scLawWrong.nd rfl (by first | exact .inl rfl | exact .inr rfl))) g_nil))) (ss_one (s_if (t_w (w_or (t_val (q_isi rfl (fun _ _ _ _ h => k_bool h) (pe_callB call_isi (by rfl) m_isinstance PyProof.Rows.boot_isinstance (pa_cons (q_var (pv 3)) (pa_cons (pe_bltn (by rfl) m_bool PyProof.Rows.boot_bool rfl) pa_nil))))) (w_or (t_not (t_val (q_isi rfl (fun _ _ _ _ h => k_int h) (pe_callB call_isi (by rfl) m_isinstance PyProof.Rows.boot_isinstance (pa_cons (q_var (pv 3)) (pa_cons (pe_bltn (by rfl) m_int PyProof.Rows.boot_int rfl) pa_nil)))))) (w_or1 (t_not (t_chain o_le o_le (pt_chain op_le op_le q_int (q_var (pv 3)) q_int))))))) (ss_one (s_ret (q_lst (a_cons (q_var (pv 2)) a_nil)))) ss_nil)))) (ss_cons (s_set (ps_set (i := 4) scLawWrong.nd rfl (by first | exact .inl rfl | exact .inr rfl) (q_call xw (pe_gc c__law_lives hr (by decide) (fun z => nomatch z) (by rfl) (takes_of rfl rfl rfl rfl) (a_cons (q_var (pv 0)) a_nil))))) (ss_cons (s_for (ps_for (passes_of rfl) rfl (i_enum rfl (pi_enumA (by rfl) m_enumerate (a_cons (q_var (pv 1)) a_nil))) (g_tup (n := 2) rfl rfl (g_cons (g_name (pg_name (i := 2) scLawWrong.nd rfl (by first | exact .inl rfl | exact .inr rfl))) (g_cons (g_name (pg_name (i := 3) scLawWrong.nd rfl (by first | exact .inl rfl | exact .inr rfl))) g_nil))) (ss_cons (s_setLcF (is := [6]) (js := [6]) (by decide) (ps_setLc (i := 5) (own := [("less", 6)]) rfl scLawWrong.nd rfl rfl (sw_true rfl rfl rfl (by decide +kernel)) (i_rng1 (pi_range1 rfl m_range (a_cons (q_var (pv 2)) a_nil))) (blkOk_by (N := nLawWrong) (sc := defScope sLawWrong) (by decide +kernel)) (fun _ _ _ _ _ => (g_name (pg_name (i := 6) scLawWrong.nd rfl (by first | exact .inl rfl | exact .inr rfl)))) (fun _ _ _ _ _ => pts_one (t_w (w_and (t_bin (o_eq rfl) (pt_cmpR (op_eqU hr.units) (q_ixV rfl (pe_ix ix_seq (pv 1) (q_var (pv 6)) (fun _ _ => rfl))) (q_var (pv 3)) (nomark _))) (w_and1 (t_bin o_ge (pt_cmpR op_ge (q_bin (o_ix rfl) (pe_ix ix_seq (q_ixV rfl (pe_ix ix_seq (pv 4) (q_var (pv 6)) (fun _ _ => rfl))) q_int (fun _ _ => rfl))) (q_bin (o_ix rfl) (pe_ix ix_seq (q_ixV rfl (pe_ix ix_seq (pv 4) (q_var (pv 2)) (fun _ _ => rfl))) q_int (fun _ _ => rfl))) (nomark _))))))) (fun _ _ _ _ _ => (q_var (pv 6))))) (ss_one (s_if (t_bin (o_ne rfl) (pt_cmpR (op_neU hr.units) (q_var (pv 5)) (q_lst a_nil) (nomark _))) (ss_one (s_ret (q_lst (a_cons (q_tup (a_cons (q_ixV rfl (pe_ix ix_seq (pv 5) q_int (fun _ _ => rfl))) (a_cons (q_var (pv 2)) a_nil))) a_nil)))) ss_nil))))) (ss_one (s_ret (q_lst a_nil))))))), ?_⟩
  obtain ⟨t, d, ok, rfl, q⟩ := hp
  have h64 : t.rows.length ≤ 400 := ok.rl
  cases d with
  | tuple ds =>
    (conv => whnf)
    refine cnd_of (fun g => ?_) fun g => ?_
    · have g := of_decide_eq_false (not_t g)
      rw [List.length_map] at g
      have e : t.wrongB (.tuple ds) = [.none] := if_neg fun z => g (by omega)
      rw [e] at q
      exact q
    have g := of_decide_eq_true (not_f g)
    rw [List.length_map] at g
    have hl : ds.length = t.rows.length := by omega
    have e : t.wrongB (.tuple ds) = badB 0 ds (clash t.lives (ds.map intOf) 0 t.rows.length) := if_pos hl
    rw [e] at q
    (conv => whnf)
    refine forGo_enumD (fun k rest ρ => ∃ a b, ρ = [.da t.enc, .da (.tuple ds), a, b, .un, .un, .un] ∧ Qd (.list (badB k rest (clash t.lives (ds.map intOf) 0 t.rows.length))) ∧ (rest.all boxOk = true → ds.all boxOk = true)) ?_ ?_ _ _ _ ⟨_, _, rfl, q, id⟩
    · rintro k d rest ρ W hW ⟨a, b, rfl, q, h⟩
      rw [badB] at q
      cases d with
      | int i =>
        (conv => whnf)
        refine cnd_of (fun c => ?_) fun c => ?_
        · have c := of_decide_eq_true c
          (conv => whnf)
          refine cnd_of (fun c2 => ?_) fun c2 => ?_
          · have c2 := of_decide_eq_false (not_t c2)
            rw [show boxOk (.int i) = false by show (decide (0 ≤ i) && decide (i ≤ 399)) = false; rw [decide_eq_false c2, Bool.and_false]] at q
            exact q
          · have c2 := of_decide_eq_true (not_f c2)
            have eb : boxOk (.int i) = true := by show (decide (0 ≤ i) && decide (i ≤ 399)) = true; rw [decide_eq_true c, decide_eq_true c2]; rfl
            rw [eb] at q
            refine hW _ ⟨_, _, rfl, q, fun z => h ?_⟩
            rw [List.all_cons, eb, z]; rfl
        · have c := of_decide_eq_false c
          rw [show boxOk (.int i) = false by show (decide (0 ≤ i) && decide (i ≤ 399)) = false; rw [decide_eq_false c, Bool.false_and]] at q
          exact q
      | _ => exact q
    · rintro k ρ ⟨a, b, rfl, q1, h⟩
      have all := h rfl
      have q2 : Qd (.list (clash t.lives (ds.map intOf) 0 t.rows.length)) := q1
      have ei := boxes_ints all
      clear q q1 e h g all
      generalize ds.map intOf = is at ei q2
      subst ei
      rw [List.length_map] at hl
      rw [← hl] at q2
      (conv => whnf)
      refine ⟨t, ok, rfl, ?_⟩
      (conv => whnf)
      refine forGo_enum (fun n rest ρ => ∃ a b c, ρ = [.da t.enc, .da (.tuple (is.map .int)), a, b, .da (.list (t.lives.map fun p => PyData.tuple (lifeL p))), c, .un] ∧ Qd (.list (clash t.lives is n rest.length)) ∧ is.drop n = rest) ?_ ?_ _ _ _ ⟨_, _, _, rfl, q2, rfl⟩
      · rintro n x rest ρ W hW ⟨a, b, c, rfl, q, hd⟩
        obtain ⟨hn, hn', hd2⟩ := drop_at hd
        have hn2 : n < t.rows.length := by omega
        have ex : is.getD n 0 = x := by rw [List.getD_eq_getElem?_getD, hn]; rfl
        have gl : ∀ j, j < t.rows.length → (t.lives.map fun p => PyData.tuple (lifeL p))[j]? = some (.tuple (lifeL (t.lives.getD j (0, 0)))) := fun j hj => by
          have hj : j < t.lives.length := by rw [lives_length]; exact hj
          rw [List.getElem?_map, List.getD_eq_getElem?_getD, List.getElem?_eq_getElem hj]; rfl
        rw [List.length_cons, clash] at q
        (conv => whnf)
        refine cnd_t (ble_t (by simp only [Int.natAbs_natCast]; omega)) ?_
        (conv => whnf)
        refine cnd_t (szle (by rw [rgS_len, Int.toNat_natCast]; omega)) ?_
        refine lcGo_rng (ρ := [_, _, _, _, _, _, _]) (fun k => if hit t.lives is n k then some (natD k) else none) (fun k hk acc W hW => ?_) ?_
        · have hk : k < n := by rw [Int.toNat_natCast] at hk; exact hk
          have hk' : k < is.length := by omega
          have ey : is.getD k 0 = is[k] := by rw [List.getD_eq_getElem?_getD, List.getElem?_eq_getElem hk']; rfl
          have hh : hit t.lives is n k = (decide (is[k] = x) && lat t.lives n k) := by unfold hit; rw [ey, ex]
          rw [hh] at hW
          (conv => whnf)
          refine someQ_of (atD_nat (k := k) (by omega) (by rw [List.getElem?_map, List.getElem?_eq_getElem hk']; rfl)) ?_
          (conv => whnf)
          refine cnd_of (fun c1 => ?_) fun c1 => ?_
          · rw [decide_eq_true (of_decide_eq_true c1), Bool.true_and] at hW
            (conv => whnf)
            refine someQ_of (atD_nat (k := k) (by omega) (gl k (by omega))) ?_
            (conv => whnf)
            refine someQ_of (atD_nat (k := n) rfl (gl n hn2)) ?_
            (conv => whnf)
            have el : decide (((t.lives.getD n (0, 0)).1 : Int) ≤ ((t.lives.getD k (0, 0)).2 : Nat)) = lat t.lives n k := by unfold lat; exact decide_eq_decide.mpr (by omega)
            rw [el]
            refine cnd_of (fun c2 => ?_) fun c2 => ?_
            · rw [c2, if_pos rfl] at hW
              (conv => whnf)
              rw [show natD k = .int (0 + (k : Nat)) by rw [Int.zero_add]; rfl] at hW
              exact hW
            · rw [c2, if_neg Bool.false_ne_true] at hW
              (conv => whnf)
              exact hW
          · rw [decide_eq_false (of_decide_eq_false c1), Bool.false_and, if_neg Bool.false_ne_true] at hW
            (conv => whnf)
            exact hW
        rw [Int.toNat_natCast, filterMap_if]
        have ef : fnd (hit t.lives is n) 0 n = ((List.range n).filter (hit t.lives is n)).head? := by unfold fnd; rw [List.range_eq_range']
        have fm : ∀ y ∈ (List.range n).filter (hit t.lives is n), y < n := fun y hy => List.mem_range.mp (List.mem_filter.mp hy).1
        have fl : ((List.range n).filter (hit t.lives is n)).length ≤ 400 := Nat.le_trans (List.length_filter_le _ _) (by rw [List.length_range]; omega)
        rw [ef] at q
        generalize (List.range n).filter (hit t.lives is n) = fs at q fm fl
        have gd := gd_natl (k := 9) (m := 400) (ns := fs) (fun y hy => by have := fm y hy; omega) fl
        cases fs with
        | nil =>
          (conv => whnf)
          refine ⟨rfl, rfl, ?_⟩
          (conv => whnf)
          exact hW _ ⟨_, _, _, rfl, q, hd2⟩
        | cons y ys =>
          (conv => whnf)
          refine ⟨gd.shaped, rfl, ?_⟩
          (conv => whnf)
          exact q
      · rintro n ρ ⟨a, b, c, rfl, q, -⟩
        exact q
  | _ => exact q
abbrev sLawDue : Stmt := topS 54
abbrev nLawDue : List Str := ["tape", "paper", "many"]
theorem scLawDue : FnScope nLawDue ["tape", "paper"] (defScope sLawDue) := ⟨rfl, rfl, rfl, by decide +kernel, rfl, by decide +kernel, by decide +kernel⟩
def PLawDue : PD := fun rs Qd _ => ∃ t : Tape, ∃ d, t.Ok ∧ rs = [.da t.enc, .da d] ∧ (match t.due d with | .many n => Qd (natD n) | .bad p => Qd (.list [p]))
theorem c__law_due (T : TxtF K mg "_law_due" sLawDue ["tape", "paper"]) (B : Blt mg) (c__law_wrong : CalG P w K mg base false 3 "_law_wrong" ["tape", "thing"] (spD K xf PLawWrong)) (c__law_loads : CalG P w K mg base false 3 "_law_loads" ["tape"] (spD K xf PLawLoads)) : CalG P w K mg base false 4 "_law_due" ["tape", "paper"] (spD K xf PLawDue) := by
  have m_len := B.len
  have m_isinstance := B.isinstance
  have m_tuple := B.tuple
  have m_int := B.int
  have m_bool := B.bool
  have m_set := B.set
  refine T.okD (xf := xf) (k := 3) scLawDue (fun rs Qd Ed hp => ?_) fun f cdv A outer s H Hd E rs Qd Ed hr hgd xw hp => ?_
  · obtain ⟨t, d, _, rfl, _⟩ := hp; rfl
  refine ⟨_, (ss_cons (s_if (t_w (w_or (t_not (t_val (q_isi rfl (fun _ _ _ _ h => k_tuple h) (pe_callB call_isi (by rfl) m_isinstance PyProof.Rows.boot_isinstance (pa_cons (q_var (pv 1)) (pa_cons (pe_bltn (by rfl) m_tuple PyProof.Rows.boot_tuple rfl) pa_nil)))))) (w_or1 (t_bin (o_ne rfl) (pt_cmpR (op_neU hr.units) (q_lenV rfl (pe_callB call_len (by rfl) m_len PySem.boot_len (pa_cons (pv 1) pa_nil))) q_int (nomark _)))))) (ss_one (s_ret (q_lst (a_cons q_non a_nil)))) ss_nil) (ss_cons (s_if (t_bin (o_ne rfl) (pt_cmpR (op_neU hr.units) (q_call xw (pe_gc c__law_wrong hr (by decide) (fun z => nomatch z) (by rfl) (takes_of rfl rfl rfl rfl) (a_cons (q_var (pv 0)) (a_cons (q_ixV rfl (pe_ix ix_seq (pv 1) q_int (fun _ _ => rfl))) a_nil)))) (q_lst a_nil) (nomark _))) (ss_one (s_ret (q_lst (a_cons q_str a_nil)))) ss_nil) (ss_cons (s_if (t_w (w_or (t_val (q_isi rfl (fun _ _ _ _ h => k_bool h) (pe_callB call_isi (by rfl) m_isinstance PyProof.Rows.boot_isinstance (pa_cons (q_ixV rfl (pe_ix ix_seq (pv 1) q_int (fun _ _ => rfl))) (pa_cons (pe_bltn (by rfl) m_bool PyProof.Rows.boot_bool rfl) pa_nil))))) (w_or (t_not (t_val (q_isi rfl (fun _ _ _ _ h => k_int h) (pe_callB call_isi (by rfl) m_isinstance PyProof.Rows.boot_isinstance (pa_cons (q_ixV rfl (pe_ix ix_seq (pv 1) q_int (fun _ _ => rfl))) (pa_cons (pe_bltn (by rfl) m_int PyProof.Rows.boot_int rfl) pa_nil)))))) (w_or1 (t_not (t_chain o_le o_le (pt_chain op_le op_le q_int (q_ixV rfl (pe_ix ix_seq (pv 1) q_int (fun _ _ => rfl))) (q_b (n_len rfl) (pe_callB call_len (by rfl) m_len PySem.boot_len (a_cons (q_ixV rfl (pe_ix ix_seq (pv 0) q_int (fun _ _ => rfl))) a_nil)))))))))) (ss_one (s_ret (q_lst (a_cons q_str a_nil)))) ss_nil) (ss_cons (s_set (ps_set (i := 2) scLawDue.nd rfl (by first | exact .inl rfl | exact .inr rfl) (q_lenSet rfl (XV.pe_lenSetA (by rfl) m_len (by rfl) m_set (q_ixV rfl (pe_ix ix_seq (pv 1) q_int (fun _ _ => rfl))))))) (ss_one (s_ret (q_if (t_bin (o_eq rfl) (pt_cmpR (op_eqU hr.units) (q_var (pv 2)) (q_bin (o_ix rfl) (pe_ix ix_seq (q_call xw (pe_gc c__law_loads hr (by decide) (fun z => nomatch z) (by rfl) (takes_of rfl rfl rfl rfl) (a_cons (q_var (pv 0)) a_nil))) (q_ixV rfl (pe_ix ix_seq (pv 1) q_int (fun _ _ => rfl))) (fun _ _ => rfl))) (nomark _))) (q_var (pv 2)) (q_lst (a_cons q_str a_nil))))))))), ?_⟩
  obtain ⟨t, d, ok, rfl, q⟩ := hp
  have h64 : t.rows.length ≤ 400 := ok.rl
  cases d with
  | tuple ds =>
    match ds, q with
    | [], q => exact q
    | [_], q => exact q
    | a :: b :: c :: r, q => (conv => whnf); exact q
    | [bx, mo], q =>
      (conv => whnf)
      refine ⟨t, bx, ok, rfl, ?_⟩
      have s := wrongB_shape (t := t) (d := bx)
      cases ew : t.wrongB bx with
      | cons x r =>
        rw [due_boxes ew] at q
        rw [ew] at s
        cases s with
        | non => (conv => whnf); exact ⟨rfl, rfl, q⟩
        | «at» n => (conv => whnf); exact ⟨rfl, rfl, q⟩
        | two l n => (conv => whnf); exact ⟨rfl, rfl, q⟩
      | nil =>
        obtain ⟨ds, rfl, hl, all, cl⟩ := wrongB_nil ew
        (conv => whnf)
        refine ⟨rfl, rfl, ?_⟩
        cases mo with
        | int i =>
          (conv => whnf)
          have no : ∀ _ : ¬ (0 ≤ i ∧ i ≤ (t.rows.length : Int)), Qd (.list [.str "moment"]) := fun h => by
            have e : momOk t.rows.length (.int i) = false := by
              show (decide (0 ≤ i) && decide (i ≤ (t.rows.length : Nat))) = false
              rw [← Bool.decide_and]; exact decide_eq_false h
            rw [due_moment ew e] at q
            exact q
          refine cnd_of (fun c => ?_) fun c => ?_
          · have c := of_decide_eq_true c
            (conv => whnf)
            refine cnd_of (fun c2 => ?_) fun c2 => ?_
            · have c2 := of_decide_eq_false (not_t c2)
              rw [List.length_map] at c2
              exact no fun z => c2 z.2
            · have c2 := of_decide_eq_true (not_f c2)
              rw [List.length_map] at c2
              have e : momOk t.rows.length (.int i) = true := by
                show (decide (0 ≤ i) && decide (i ≤ (t.rows.length : Nat))) = true
                rw [← Bool.decide_and]; exact decide_eq_true ⟨c, c2⟩
              rw [due_at ew e] at q
              have ei := boxes_ints all
              clear ew s all cl no
              generalize ds.map intOf = is at ei q
              subst ei
              rw [List.length_map] at hl
              (conv => whnf)
              refine ⟨is, rfl, by omega, ?_⟩
              (conv => whnf)
              refine ⟨t, ok, rfl, ?_⟩
              (conv => whnf)
              have gi : (t.loads.map natD)[i.toNat]? = some (natD (loadN t.lives i.toNat)) := by
                unfold Tape.loads
                rw [List.map_map, List.getElem?_map, List.getElem?_range (by omega)]; rfl
              refine someQ_of (atD_nat (k := i.toNat) (by omega) gi) ?_
              (conv => whnf)
              refine cnd_of (fun c => ?_) fun c => ?_
              · have n : XV.cardI is = loadN t.lives i.toNat := by
                  have c := of_decide_eq_true c
                  omega
                rw [if_pos n] at q
                exact q
              · have n : XV.cardI is ≠ loadN t.lives i.toNat := fun z => by
                  rw [z] at c
                  exact absurd rfl (of_decide_eq_false c)
                rw [if_neg n] at q
                exact q
          · have c := of_decide_eq_false c
            exact no fun z => c z.1
        | _ => rw [due_moment ew rfl] at q; (conv => whnf); exact q
  | _ => exact q
end
end K81

-- K81I
set_option autoImplicit false
namespace K81
open PySem PySem.Spec PyProof.Rows L2 DL TP
abbrev sLawTold : Stmt := topS 52
abbrev nLawTold : List Str := ["deed", "found", "error"]
theorem scLawTold : FnScope nLawTold ["deed"] (defScope sLawTold) := ⟨rfl, rfl, rfl, by decide +kernel, rfl, by decide +kernel, by decide +kernel⟩
def kindsT (xa : Str → Addr) : List Kd := [(xa "BadTape", "tape", "place"), (xa "BadMap", "map", "place"), (xa "BadCode", "code", "place"), (xa "BadPoint", "point", "place"), (xa "BadPaper", "paper", "place"), (xa "BadText", "text", "place"), (xa "BadNumber", "number", "value"), (xa "NoSuch", "none", "value"), (xa "TooMany", "many", "most")]
theorem gv__law_told {K : PySem.W.Frag} {mg : Str → Option Value} {xa : Str → Addr} (y_BadTape : XF K mg xa "BadTape" "place") (y_BadMap : XF K mg xa "BadMap" "place") (y_BadCode : XF K mg xa "BadCode" "place") (y_BadPoint : XF K mg xa "BadPoint" "place") (y_BadPaper : XF K mg xa "BadPaper" "place") (y_BadText : XF K mg xa "BadText" "place") (y_BadNumber : XF K mg xa "BadNumber" "value") (y_NoSuch : XF K mg xa "NoSuch" "value") (y_TooMany : XF K mg xa "TooMany" "most")
    (ex : ∀ k ∈ kindsT xa, ∀ j ∈ kindsT xa, PySem.W.exmOne K (.ref k.1) (.ref j.1) = some (decide (k.1 = j.1))) (one : ∀ k ∈ kindsT xa, ∀ j ∈ kindsT xa, k.1 = j.1 → k = j)
    (X : Cx) (q : Str) (hK : X.K = K) (hM : X.mg = mg) (g : Addr) (cdv : Value) : LamX.GivesTo X nLawTold "_law_told" (defScope sLawTold) g cdv (defBody sLawTold) "deed" q (TTd (kindsT xa)) := by
  subst hK
  subst hM
  intro f c' s H Q tl act hc h
  refine ⟨_, pss_cons (ps_set (i := 1) scLawTold.nd rfl (.inl rfl) (pe_tup pa_nil)) (pss_cons (XV.ps_try_manyAs (i := 2) (n := "error") (Wo := fun _ _ _ _ => False) (l := (kindsT xa).map clsT) (tb := tbT tl f c' q) rfl rfl scLawTold.nd rfl rfl LamX.takes0
    (fun W pn xe tk _ => tb_ok rfl tk fun E tkE => ps_set (i := 1) scLawTold.nd rfl (.inl rfl) (pe_tup (pa_cons pe_str (pa_cons (act _ pn xe E _ _ tkE fun _ _ _ _ h => h) pa_nil)))) (.cons ⟨by rfl, by decide, .inl y_BadTape.m⟩ (fun a oe cls d ps hz hf => pss_one (ps_set (i := 1) scLawTold.nd rfl (.inl rfl) (pe_tup (pa_cons pe_str (pa_cons (pe_xf y_BadTape.c y_BadTape.no hz hf (pv 2)) pa_nil))))) (.cons ⟨by rfl, by decide, .inl y_BadMap.m⟩ (fun a oe cls d ps hz hf => pss_one (ps_set (i := 1) scLawTold.nd rfl (.inl rfl) (pe_tup (pa_cons pe_str (pa_cons (pe_xf y_BadMap.c y_BadMap.no hz hf (pv 2)) pa_nil))))) (.cons ⟨by rfl, by decide, .inl y_BadCode.m⟩ (fun a oe cls d ps hz hf => pss_one (ps_set (i := 1) scLawTold.nd rfl (.inl rfl) (pe_tup (pa_cons pe_str (pa_cons (pe_xf y_BadCode.c y_BadCode.no hz hf (pv 2)) pa_nil))))) (.cons ⟨by rfl, by decide, .inl y_BadPoint.m⟩ (fun a oe cls d ps hz hf => pss_one (ps_set (i := 1) scLawTold.nd rfl (.inl rfl) (pe_tup (pa_cons pe_str (pa_cons (pe_xf y_BadPoint.c y_BadPoint.no hz hf (pv 2)) pa_nil))))) (.cons ⟨by rfl, by decide, .inl y_BadPaper.m⟩ (fun a oe cls d ps hz hf => pss_one (ps_set (i := 1) scLawTold.nd rfl (.inl rfl) (pe_tup (pa_cons pe_str (pa_cons (pe_xf y_BadPaper.c y_BadPaper.no hz hf (pv 2)) pa_nil))))) (.cons ⟨by rfl, by decide, .inl y_BadText.m⟩ (fun a oe cls d ps hz hf => pss_one (ps_set (i := 1) scLawTold.nd rfl (.inl rfl) (pe_tup (pa_cons pe_str (pa_cons (pe_xf y_BadText.c y_BadText.no hz hf (pv 2)) pa_nil))))) (.cons ⟨by rfl, by decide, .inl y_BadNumber.m⟩ (fun a oe cls d ps hz hf => pss_one (ps_set (i := 1) scLawTold.nd rfl (.inl rfl) (pe_tup (pa_cons pe_str (pa_cons (pe_xf y_BadNumber.c y_BadNumber.no hz hf (pv 2)) pa_nil))))) (.cons ⟨by rfl, by decide, .inl y_NoSuch.m⟩ (fun a oe cls d ps hz hf => pss_one (ps_set (i := 1) scLawTold.nd rfl (.inl rfl) (pe_tup (pa_cons pe_str (pa_cons (pe_xf y_NoSuch.c y_NoSuch.no hz hf (pv 2)) pa_nil))))) (.cons ⟨by rfl, by decide, .inl y_TooMany.m⟩ (fun a oe cls d ps hz hf => pss_one (ps_set (i := 1) scLawTold.nd rfl (.inl rfl) (pe_tup (pa_cons pe_str (pa_cons (pe_xf y_TooMany.c y_TooMany.no hz hf (pv 2)) pa_nil))))) .nil)))))))))) (pss_one (ps_ret (pv 1)))), ?_⟩
  exact told_reads ex one hc h
theorem tx_kindsT_BadTape (xa : Str → Addr) (d : D) : txT (kindsT xa) (xa "BadTape") d (.tuple [.str "tape", d]) := ⟨(xa "BadTape", "tape", "place"), by simp [kindsT], rfl, rfl⟩
theorem tx_kindsT_BadMap (xa : Str → Addr) (d : D) : txT (kindsT xa) (xa "BadMap") d (.tuple [.str "map", d]) := ⟨(xa "BadMap", "map", "place"), by simp [kindsT], rfl, rfl⟩
theorem tx_kindsT_BadCode (xa : Str → Addr) (d : D) : txT (kindsT xa) (xa "BadCode") d (.tuple [.str "code", d]) := ⟨(xa "BadCode", "code", "place"), by simp [kindsT], rfl, rfl⟩
theorem tx_kindsT_BadPoint (xa : Str → Addr) (d : D) : txT (kindsT xa) (xa "BadPoint") d (.tuple [.str "point", d]) := ⟨(xa "BadPoint", "point", "place"), by simp [kindsT], rfl, rfl⟩
theorem tx_kindsT_BadPaper (xa : Str → Addr) (d : D) : txT (kindsT xa) (xa "BadPaper") d (.tuple [.str "paper", d]) := ⟨(xa "BadPaper", "paper", "place"), by simp [kindsT], rfl, rfl⟩
theorem tx_kindsT_BadText (xa : Str → Addr) (d : D) : txT (kindsT xa) (xa "BadText") d (.tuple [.str "text", d]) := ⟨(xa "BadText", "text", "place"), by simp [kindsT], rfl, rfl⟩
theorem tx_kindsT_BadNumber (xa : Str → Addr) (d : D) : txT (kindsT xa) (xa "BadNumber") d (.tuple [.str "number", d]) := ⟨(xa "BadNumber", "number", "value"), by simp [kindsT], rfl, rfl⟩
theorem tx_kindsT_NoSuch (xa : Str → Addr) (d : D) : txT (kindsT xa) (xa "NoSuch") d (.tuple [.str "none", d]) := ⟨(xa "NoSuch", "none", "value"), by simp [kindsT], rfl, rfl⟩
theorem tx_kindsT_TooMany (xa : Str → Addr) (d : D) : txT (kindsT xa) (xa "TooMany") d (.tuple [.str "many", d]) := ⟨(xa "TooMany", "many", "most"), by simp [kindsT], rfl, rfl⟩
end K81

-- TG
set_option autoImplicit true
namespace TP
open PySem PySem.Spec PyProof.Rows L2 DL
/-! ### what is shown of tapes -/
section
variable {t : Tape}
theorem loadN_le {lv : List (Nat × Nat)} {mo : Nat} : loadN lv mo ≤ lv.length := List.countP_le_length
theorem gd_lives (ok : t.Ok) : Gd 2 20000 (.tuple (t.lives.map fun p => .tuple (lifeL p))) := by
  have h64 : t.rows.length ≤ 400 := ok.rl
  have g := gd_tuple (n := 1) (L := 2 * (9 + 1 + 2) + 3) (ds := t.lives.map fun p => PyData.tuple (lifeL p)) fun d hd => by
    obtain ⟨p, hp, rfl⟩ := List.mem_map.mp hd
    have := lives_ok p hp
    exact gd_two (gd_nat (k := 9) (by omega)) (gd_nat (k := 9) (by omega))
  refine g.mono (Nat.le_refl _) ?_
  rw [List.length_map, lives_length]
  omega
theorem gd_loads (ok : t.Ok) : Gd 1 20000 (.tuple (t.loads.map natD)) := by
  have h64 : t.rows.length ≤ 400 := ok.rl
  refine (gd_nats (k := 9) (m := 401) (ns := t.loads) (fun x hx => ?_) (by rw [loads_length]; omega)).mono (Nat.le_refl _) (by decide)
  unfold Tape.loads at hx
  obtain ⟨mo, _, rfl⟩ := List.mem_map.mp hx
  have := loadN_le (lv := t.lives) (mo := mo)
  rw [lives_length] at this
  omega
theorem gd_boxes (ok : t.Ok) : Gd 1 20000 (.tuple (t.boxes.map natD)) := by
  have h64 : t.rows.length ≤ 400 := ok.rl
  refine (gd_nats (k := 9) (m := 400) (ns := t.boxes) (fun x hx => ?_) (by rw [boxes_length]; omega)).mono (Nat.le_refl _) (by decide)
  have := box_lt_peak hx
  have := peak_le (t := t)
  omega
theorem gd_peak (ok : t.Ok) : Gd 0 10 (natD t.peak) := by
  have h64 : t.rows.length ≤ 400 := ok.rl
  have := peak_le (t := t)
  exact gd_nat (k := 9) (by omega)
theorem liveAt_ints {mo : Nat} : ∃ ns : List Nat, t.liveAt mo = ns.map natD ∧ ns.length ≤ t.rows.length ∧ ∀ x ∈ ns, x < t.n + t.rows.length := by
  unfold Tape.liveAt
  have key : ∀ (lv : List (Nat × Nat)) (k : Nat), ∃ ns : List Nat, enF (liveF t.n mo) k lv = ns.map natD ∧ ns.length ≤ lv.length ∧ ∀ x ∈ ns, x < t.n + k + lv.length := by
    intro lv
    induction lv with
    | nil => intro k; exact ⟨[], rfl, Nat.le_refl _, fun _ h => absurd h List.not_mem_nil⟩
    | cons p lv ih =>
      intro k
      obtain ⟨ns, h1, h2, h3⟩ := ih (k + 1)
      by_cases c : p.1 ≤ mo ∧ mo ≤ p.2
      · refine ⟨(t.n + k) :: ns, ?_, by simp; omega, fun x hx => ?_⟩
        · rw [enF, liveF, if_pos c, h1]; rfl
        · rw [List.length_cons]
          rcases List.mem_cons.mp hx with rfl | hx
          · omega
          · have := h3 x hx; omega
      · refine ⟨ns, ?_, by rw [List.length_cons]; omega, fun x hx => ?_⟩
        · rw [enF, liveF, if_neg c, h1]
        · rw [List.length_cons]
          have := h3 x hx; omega
  obtain ⟨ns, h1, h2, h3⟩ := key t.lives 0
  rw [lives_length] at h2 h3
  exact ⟨ns, h1, h2, fun x hx => by have := h3 x hx; omega⟩
theorem gd_liveAt (ok : t.Ok) (mo : Nat) : Gd 1 20000 (.tuple (t.liveAt mo)) := by
  have h64 : t.rows.length ≤ 400 := ok.rl
  have := ok.n2
  obtain ⟨ns, e, h1, h2⟩ := liveAt_ints (t := t) (mo := mo)
  rw [e]
  exact (gd_nats (k := 9) (m := 400) (ns := ns) (fun x hx => by have := h2 x hx; omega) (by omega)).mono (Nat.le_refl _) (by decide)
theorem gd_wrong {l : List D} (h : WrongS l) (k : ∀ d ∈ l, ∃ a b : Nat, (d = .none ∨ d = natD a ∨ d = .tuple [natD a, natD b]) ∧ a < 512 ∧ b < 512) : ∀ d ∈ l, Gd 1 40 d := by
  intro d hd
  obtain ⟨a, b, e, h1, h2⟩ := k d hd
  rcases e with rfl | rfl | rfl
  · exact gd_none.mono (by omega) (by omega)
  · exact (gd_nat (k := 9) h1).mono (by omega) (by omega)
  · exact (gd_two (gd_nat (k := 9) h1) (gd_nat (k := 9) h2)).mono (by omega) (by omega)
end
section
variable {t : Tape}
theorem clash_small {lv : List (Nat × Nat)} {bs : List Int} : ∀ {m n : Nat}, n + m ≤ 500 → ∀ x ∈ clash lv bs n m, Gd 1 100 x
  | 0, n, _, x, hx => absurd hx List.not_mem_nil
  | m + 1, n, h, x, hx => by
    rw [clash] at hx
    cases e : fnd (hit lv bs n) 0 n with
    | some l =>
      rw [e] at hx
      obtain ⟨_, _, h3, _⟩ := fnd_some e
      have hx : x = .tuple [natD l, natD n] := by simpa using hx
      subst hx
      exact (gd_two (gd_nat (n := l) (k := 9) (by omega)) (gd_nat (n := n) (k := 9) (by omega))).mono (by decide) (by decide)
    | none => rw [e] at hx; exact clash_small (n := n + 1) (m := m) (by omega) x hx
theorem badB_small {z : List D} (hz : ∀ x ∈ z, Gd 1 100 x) : ∀ {ds : List D} {k : Nat}, k + ds.length ≤ 500 → ∀ x ∈ badB k ds z, Gd 1 100 x
  | [], _, _, x, hx => hz x hx
  | d :: ds, k, h, x, hx => by
    rw [List.length_cons] at h
    rw [badB] at hx
    split at hx
    · exact badB_small hz (by omega) x hx
    · have hx : x = natD k := by simpa using hx
      subst hx
      exact (gd_nat (k := 9) (by omega)).mono (by decide) (by decide)
theorem wrongB_small (ok : t.Ok) {d : D} : ∀ x ∈ t.wrongB d, Gd 1 100 x := by
  have h64 : t.rows.length ≤ 400 := ok.rl
  have nn : ∀ x ∈ [PyData.none], Gd 1 100 x := fun x hx => by
    have hx : x = .none := by simpa using hx
    subst hx
    exact gd_none.mono (by decide) (by decide)
  unfold Tape.wrongB
  split
  · split
    · rename_i ds hl
      exact badB_small (clash_small (by omega)) (by omega)
    · exact nn
  · exact nn
/-- what is told of a paper is small -/
def Due.small : Due → Prop
  | .bad p => Gd 0 100 p
  | .many n => n < 512
theorem due_small (ok : t.Ok) (d : D) : (t.due d).small := by
  have h64 : t.rows.length ≤ 400 := ok.rl
  have sb : (Due.bad (.str "boxes")).small := (gd_str "boxes").mono (by decide) (by decide +kernel)
  have sm : (Due.bad (.str "moment")).small := (gd_str "moment").mono (by decide) (by decide +kernel)
  have sn : (Due.bad (.str "number")).small := (gd_str "number").mono (by decide) (by decide +kernel)
  unfold Tape.due
  split
  · rename_i bx mo
    cases ew : t.wrongB bx with
    | cons x r => exact sb
    | nil =>
      dsimp only
      split
      · rename_i ds i
        split
        · split
          · rename_i e
            show XV.cardI (ds.map intOf) < 512
            rw [e]
            have := loadN_le (lv := t.lives) (mo := i.toNat)
            rw [lives_length] at this
            omega
          · exact sn
        · exact sm
      · exact sm
  · exact gd_none.mono (by decide) (by decide)
theorem due_paper (ok : t.Ok) {mo : Nat} (h1 : mo ≤ t.rows.length) (h2 : loadN t.lives mo = t.peak) : t.due (.tuple [.tuple (t.boxes.map natD), natD mo]) = .many t.peak := by
  have e : t.due (.tuple [.tuple (t.boxes.map natD), .int (mo : Nat)]) = _ := due_at (wrongB_first ok) (show (decide (0 ≤ (mo : Int)) && decide ((mo : Int) ≤ (t.rows.length : Nat))) = true by rw [decide_eq_true (by omega), decide_eq_true (by omega)]; rfl)
  rw [intOf_nat, boxes_card] at e
  have e2 : (if t.peak = loadN t.lives (mo : Int).toNat then Due.many t.peak else .bad (.str "number")) = .many t.peak := if_pos (by rw [Int.toNat_natCast, h2])
  exact e.trans e2
/-- the greatest of the boxes and -1 -/
theorem max_boxes {m : Int} (h1 : m ∈ t.boxes.map toI ++ [-1]) (h2 : ∀ y ∈ t.boxes.map toI ++ [-1], y ≤ m) : m = (t.peak : Nat) - 1 := by
  have a : m < (t.peak : Nat) ∧ -1 ≤ m := by
    refine ⟨?_, h2 _ (by simp)⟩
    rcases List.mem_append.mp h1 with z | z
    · obtain ⟨x, hx, rfl⟩ := List.mem_map.mp z
      have := box_mem.mp hx
      unfold toI
      omega
    · have : m = -1 := by simpa using z
      omega
  by_cases c : t.peak = 0
  · omega
  · have := h2 (toI (t.peak - 1)) (List.mem_append_left _ (List.mem_map_of_mem (box_mem.mpr (by omega))))
    unfold toI at this
    omega
end
end TP

-- K81J
set_option autoImplicit false
namespace K81
open PySem PySem.Spec PyProof.Rows L2 DL TP
theorem gd_bad {d p : D} (h : (d, p) ∈ badT) : Gd 1 100 p := by
  have r : Gd 1 100 (.tuple [.str "row", .int 0]) := (gd_two ((gd_str "row").mono (Nat.le_refl _) (by decide +kernel : 10 * ("row" : Str).length + 2 ≤ 40)) ((gd_nat (n := 0) (k := 5) (by decide)).mono (Nat.le_refl _) (by decide))).mono (Nat.le_refl _) (by decide)
  have o : Gd 1 100 (.tuple [.str "out", .int 0]) := (gd_two ((gd_str "out").mono (Nat.le_refl _) (by decide +kernel : 10 * ("out" : Str).length + 2 ≤ 40)) ((gd_nat (n := 0) (k := 5) (by decide)).mono (Nat.le_refl _) (by decide))).mono (Nat.le_refl _) (by decide)
  refine bad_of h ?_ ?_ ?_ ?_ ?_ ?_ ?_ <;> rintro rfl rfl
  · exact gd_none.mono (by decide) (by decide)
  · exact (gd_str "inputs").mono (by decide) (by decide +kernel)
  · exact (gd_str "inputs").mono (by decide) (by decide +kernel)
  · exact (gd_str "rows").mono (by decide) (by decide +kernel)
  · exact r
  · exact (gd_str "outs").mono (by decide) (by decide +kernel)
  · exact o
section
variable {P : Program} {w : World} {K : PySem.W.Frag} {mg : Str → Option Value} {base : Heap} {xf : XT} {xa : Str → Addr}
abbrev sLawLivesRight : Stmt := topS 55
abbrev nLawLivesRight : List Str := ["state", "tape", "lives", "loads", "moment", "due", "at", "life"]
theorem scLawLivesRight : FnScope nLawLivesRight ["state", "tape"] (defScope sLawLivesRight) := ⟨rfl, rfl, rfl, by decide +kernel, rfl, by decide +kernel, by decide +kernel⟩
def PLawLivesRight : PB := fun o rs Qd _ => ∃ (n : Nat) (t : Tape), o = .st n ∧ t.Ok ∧ rs = [.da t.enc] ∧ Qd (.bool true) (.st n)
theorem c__law_lives_right (T : TxtF K mg "_law_lives_right" sLawLivesRight ["state", "tape"]) (B : Blt mg) (c__law_loads : CalG P w K mg base false 3 "_law_loads" ["tape"] (spD K xf PLawLoads)) (c__law_lives : CalG P w K mg base false 2 "_law_lives" ["tape"] (spD K xf PLawLives)) (c_peak_of : CalG P w K mg base false 6 "peak_of" ["tape"] (spD K xf (PPeakOf xa))) (c_loads_of : CalG P w K mg base false 6 "loads_of" ["tape"] (spD K xf (PLoadsOf xa))) (c_lives_of : CalG P w K mg base false 6 "lives_of" ["tape"] (spD K xf (PLivesOf xa))) (c_live_at : CalG P w K mg base false 6 "live_at" ["tape", "moment"] (spD K xf (PLiveAt xa))) (t_peak_of : TxtF K mg "peak_of" sPeakOf ["tape"]) (t_loads_of : TxtF K mg "loads_of" sLoadsOf ["tape"]) (t_lives_of : TxtF K mg "lives_of" sLivesOf ["tape"]) (t_live_at : TxtF K mg "live_at" sLiveAt ["tape", "moment"]) : CalG P w K mg base true 7 "_law_lives_right" ["state", "tape"] (spB K xf PLawLivesRight) := by
  have m_repr := B.repr
  have m_max := B.max
  have m_tuple := B.tuple
  have m_range := B.range
  have m_len := B.len
  have m_enumerate := B.enumerate
  refine T.okB (xf := xf) (k := 6) scLawLivesRight (fun o rs Qd Ed hp => ?_) fun f cdv A outer s H Hd E B0 o rs Qd Ed hr hgd hp => ?_
  · obtain ⟨n, t, _, _, rfl, _⟩ := hp; rfl
  refine ⟨_, (ss_cons (s_par (by decide) (ps_par (i := 2) (j := 3) rfl scLawLivesRight.nd rfl rfl (by decide) rfl rfl (a_cons (q_call (xw0 (xf := xf)) (pe_gc0 c__law_lives hr (by decide) (fun z => nomatch z) (by rfl) (a_cons (q_var (pv 1)) a_nil))) (a_cons (q_call (xw0 (xf := xf)) (pe_gc0 c__law_loads hr (by decide) (fun z => nomatch z) (by rfl) (a_cons (q_var (pv 1)) a_nil))) a_nil)) (by rfl))) (ss_cons (s_if (t_w (w_or (t_bin (o_ne rfl) (pt_cmpR (op_neU hr.units) (q_b (n_repr rfl) (pe_callB (XV.call_reprD (hgd rfl) hr.units) (by rfl) m_repr PyProof.Rows.boot_repr (a_cons (q_callKw (perm := fun {_} => pick [0]) (fun h => pick_args h _) (xw0 (xf := xf)) (pe_gck0 (ks := ["tape"]) (is := [0]) c_lives_of t_lives_of (fun _ _ _ _ _ _ ws hl => match ws, hl with | [_], _ => rfl) hr (by decide) (fun z => nomatch z) (by rfl) (k_cons (q_var (pv 1)) k_nil))) a_nil))) (q_b (n_repr rfl) (pe_callB (XV.call_reprD (hgd rfl) hr.units) (by rfl) m_repr PyProof.Rows.boot_repr (a_cons (q_b (n_tuple rfl) (pe_callTy call_tuple_of (by rfl) m_tuple PyProof.Rows.boot_tuple (a_cons (q_var (pv 2)) a_nil))) a_nil))) (nomark _))) (w_or (t_bin (o_ne rfl) (pt_cmpR (op_neU hr.units) (q_b (n_repr rfl) (pe_callB (XV.call_reprD (hgd rfl) hr.units) (by rfl) m_repr PyProof.Rows.boot_repr (a_cons (q_callKw (perm := fun {_} => pick [0]) (fun h => pick_args h _) (xw0 (xf := xf)) (pe_gck0 (ks := ["tape"]) (is := [0]) c_loads_of t_loads_of (fun _ _ _ _ _ _ ws hl => match ws, hl with | [_], _ => rfl) hr (by decide) (fun z => nomatch z) (by rfl) (k_cons (q_var (pv 1)) k_nil))) a_nil))) (q_b (n_repr rfl) (pe_callB (XV.call_reprD (hgd rfl) hr.units) (by rfl) m_repr PyProof.Rows.boot_repr (a_cons (q_b (n_tuple rfl) (pe_callTy call_tuple_of (by rfl) m_tuple PyProof.Rows.boot_tuple (a_cons (q_var (pv 3)) a_nil))) a_nil))) (nomark _))) (w_or1 (t_bin (o_ne rfl) (pt_cmpR (op_neU hr.units) (q_b (n_repr rfl) (pe_callB (XV.call_reprD (hgd rfl) hr.units) (by rfl) m_repr PyProof.Rows.boot_repr (a_cons (q_callKw (perm := fun {_} => pick [0]) (fun h => pick_args h _) (xw0 (xf := xf)) (pe_gck0 (ks := ["tape"]) (is := [0]) c_peak_of t_peak_of (fun _ _ _ _ _ _ ws hl => match ws, hl with | [_], _ => rfl) hr (by decide) (fun z => nomatch z) (by rfl) (k_cons (q_var (pv 1)) k_nil))) a_nil))) (q_b (n_repr rfl) (pe_callB (XV.call_reprD (hgd rfl) hr.units) (by rfl) m_repr PyProof.Rows.boot_repr (a_cons (q_b n_max (pe_callB (cr_max rfl) (by rfl) m_max PyProof.Rows.boot_max (a_cons (q_var (pv 3)) a_nil))) a_nil))) (nomark _))))))) (ss_one (s_ret q_bl)) ss_nil) (ss_cons (s_for (ps_for (passes_of rfl) rfl (i_rng1 (pi_range1 rfl m_range (a_cons (q_bin (o_add rfl) (pe_op op_addU (q_b (n_len rfl) (pe_callB call_len (by rfl) m_len PySem.boot_len (a_cons (q_ixV rfl (pe_ix ix_seq (pv 1) q_int (fun _ _ => rfl))) a_nil))) q_int)) a_nil))) (g_name (pg_name (i := 4) scLawLivesRight.nd rfl (by first | exact .inl rfl | exact .inr rfl))) (ss_cons (s_set (ps_set (i := 5) scLawLivesRight.nd rfl (by first | exact .inl rfl | exact .inr rfl) (q_b (n_tuple rfl) (pe_callTy call_tuple_of (by rfl) m_tuple PyProof.Rows.boot_tuple (a_cons (q_lc (is := [6, 7]) (js := [6, 7]) (by decide) (pe_lc (own := [("at", 6), ("life", 7)]) rfl scLawLivesRight.nd (i_enum rfl (pi_enumA (by rfl) m_enumerate (a_cons (q_var (pv 2)) a_nil))) (blkOk_by (N := nLawLivesRight) (sc := defScope sLawLivesRight) (by decide +kernel)) (fun _ _ _ _ _ => (g_tup (n := 2) rfl rfl (g_cons (g_name (pg_name (i := 6) scLawLivesRight.nd rfl (by first | exact .inl rfl | exact .inr rfl))) (g_cons (g_name (pg_name (i := 7) scLawLivesRight.nd rfl (by first | exact .inl rfl | exact .inr rfl))) g_nil)))) (fun _ _ _ _ _ => pts_one (t_chain o_le o_le (pt_chain op_le op_le (q_ixV rfl (pe_ix ix_seq (pv 7) q_int (fun _ _ => rfl))) (q_var (pv 4)) (q_ixV rfl (pe_ix ix_seq (pv 7) q_int (fun _ _ => rfl)))))) (fun _ _ _ _ _ => (q_bin (o_add rfl) (pe_op op_addU (q_ixV rfl (pe_ix ix_seq (pv 1) q_int (fun _ _ => rfl))) (q_var (pv 6))))))) a_nil))))) (ss_one (s_if (t_bin (o_ne rfl) (pt_cmpR (op_neU hr.units) (q_b (n_repr rfl) (pe_callB (XV.call_reprD (hgd rfl) hr.units) (by rfl) m_repr PyProof.Rows.boot_repr (a_cons (q_callKw (perm := fun {_} => pick [1, 0]) (fun h => pick_args h _) (xw0 (xf := xf)) (pe_gck0 (ks := ["moment", "tape"]) (is := [1, 0]) c_live_at t_live_at (fun _ _ _ _ _ _ ws hl => match ws, hl with | [_, _], _ => rfl) hr (by decide) (fun z => nomatch z) (by rfl) (k_cons (q_var (pv 4)) (k_cons (q_var (pv 1)) k_nil)))) a_nil))) (q_b (n_repr rfl) (pe_callB (XV.call_reprD (hgd rfl) hr.units) (by rfl) m_repr PyProof.Rows.boot_repr (a_cons (q_var (pv 5)) a_nil))) (nomark _))) (ss_one (s_ret q_bl)) ss_nil))))) (ss_one (s_ret q_bl))))), ?_⟩
  obtain ⟨n, t, rfl, ok, rfl, q⟩ := hp
  have h64 : t.rows.length ≤ 400 := ok.rl
  have lr : (t.rows.map Row.enc).length = t.rows.length := List.length_map _
  (conv => whnf)
  refine ⟨t, ok, rfl, ?_⟩
  (conv => whnf)
  refine ⟨t, ok, rfl, ?_⟩
  (conv => whnf)
  refine .inl ⟨t, ok, rfl, ?_⟩
  (conv => whnf)
  refine ⟨(gd_lives ok).shOk, ?_⟩
  (conv => whnf)
  refine ⟨(gd_lives ok).shOk, ?_⟩
  (conv => whnf)
  refine cnd_f (shw_nn rfl) ?_
  (conv => whnf)
  refine .inl ⟨t, ok, rfl, ?_⟩
  (conv => whnf)
  refine ⟨(gd_loads ok).shOk, ?_⟩
  (conv => whnf)
  refine ⟨(gd_loads ok).shOk, ?_⟩
  (conv => whnf)
  refine cnd_f (shw_nn rfl) ?_
  (conv => whnf)
  refine .inl ⟨t, ok, rfl, ?_⟩
  (conv => whnf)
  refine ⟨(gd_peak ok).shOk, ?_⟩
  (conv => whnf)
  refine ⟨_, natD_map _, by rw [List.length_map, loads_length]; omega, fun m h1 h2 => ?_⟩
  rw [max_is loads_ne h1 h2]
  refine ⟨(gd_peak ok).shOk, ?_⟩
  (conv => whnf)
  refine cnd_f (shw_nn rfl) ?_
  (conv => whnf)
  refine cnd_t (ble_t (by rw [lr]; omega)) ?_
  refine forGo_rng (fun k ρ => ∃ a b, ρ = [.bo (.st n), .da t.enc, .da (.list (t.lives.map fun p => PyData.tuple (lifeL p))), .da (.list (t.loads.map natD)), a, b, .un, .un]) ?_ ?_ ⟨_, _, rfl⟩
  · rintro mo ρ W hk hW ⟨a, b, rfl⟩
    rw [lr] at hk
    (conv => whnf)
    refine cnd_t (szle (by rw [enS_length, List.length_map, lives_length]; omega)) ?_
    refine lcGo_enum (ρ := [_, _, _, _, _, _, _, _]) (liveF t.n mo) t.lives _ _ _ rfl (fun k p hp acc W hW => ?_) ?_
    · (conv => whnf)
      refine cnd_of (fun g => ?_) fun g => ?_
      · (conv => whnf)
        have g := of_decide_eq_true g
        refine cnd_of (fun g2 => ?_) fun g2 => ?_
        · have g2 := of_decide_eq_true g2
          rw [liveF, if_pos (by omega), natD_add] at hW
          (conv => whnf)
          exact hW
        · have g2 := of_decide_eq_false g2
          rw [liveF, if_neg (by omega)] at hW
          (conv => whnf)
          exact hW
      · have g := of_decide_eq_false g
        rw [liveF, if_neg (by omega)] at hW
        (conv => whnf)
        exact hW
    rw [List.nil_append]
    (conv => whnf)
    refine .inl ⟨t, mo, ok, by omega, by rw [Int.zero_add]; rfl, ?_⟩
    (conv => whnf)
    refine ⟨(gd_liveAt ok mo).shOk, ?_⟩
    (conv => whnf)
    refine ⟨(gd_liveAt ok mo).shOk, ?_⟩
    (conv => whnf)
    refine cnd_f (shw_nn rfl) ?_
    exact hW _ ⟨_, _, rfl⟩
  · rintro ρ ⟨a, b, rfl⟩
    exact q
abbrev sLawRefusedRight : Stmt := topS 57
abbrev nLawRefusedRight : List Str := ["tape", "wrong", "bad", "place", "deed", "odd"]
theorem scLawRefusedRight : FnScope nLawRefusedRight ["tape"] (defScope sLawRefusedRight) := ⟨rfl, rfl, rfl, by decide +kernel, rfl, by decide +kernel, by decide +kernel⟩
def PLawRefusedRight : PD := fun rs Qd _ => ∃ t : Tape, t.Ok ∧ rs = [.da t.enc] ∧ Qd (.bool true)
theorem c__law_refused_right {cme Pme : Addr} (T : TxtL K mg "_law_refused_right" sLawRefusedRight ["tape"] cme) (L_me : LamH K mg base xf.T "_law_refused_right.<locals>.<lambda>" cme Pme) (B : Blt mg) (c_live_at : CalG P w K mg base false 6 "live_at" ["tape", "moment"] (spD K xf (PLiveAt xa))) (c_box_paper : CalG P w K mg base false 6 "box_paper" ["tape"] (spD K xf (PBoxPaper xa))) (c_first_boxes : CalG P w K mg base false 6 "first_boxes" ["tape"] (spD K xf (PFirstBoxes xa))) (c_peak_of : CalG P w K mg base false 6 "peak_of" ["tape"] (spD K xf (PPeakOf xa))) (c_loads_of : CalG P w K mg base false 6 "loads_of" ["tape"] (spD K xf (PLoadsOf xa))) (c_lives_of : CalG P w K mg base false 6 "lives_of" ["tape"] (spD K xf (PLivesOf xa))) (c_need_boxes : CalG P w K mg base false 6 "need_boxes" ["tape", "boxes"] (spD K xf (PNeedBoxes xa))) (c_check_boxes : CalG P w K mg base false 6 "check_boxes" ["tape", "paper"] (spD K xf (PCheckBoxes xa))) (h__law_told : ToldH K mg xf "_law_told" "deed" nLawTold sLawTold tvT (txT (kindsT xa)) (TTd (kindsT xa))) : CalG P w K mg base true 9 "_law_refused_right" ["tape"] (spD K xf PLawRefusedRight) := by
  have m_len := B.len
  have m_repr := B.repr
  obtain ⟨f_box_paper, fd_box_paper, st_box_paper, F_box_paper, kp_box_paper, b_box_paper, m_box_paper, u_box_paper⟩ := c_box_paper.ex
  obtain ⟨f_first_boxes, fd_first_boxes, st_first_boxes, F_first_boxes, kp_first_boxes, b_first_boxes, m_first_boxes, u_first_boxes⟩ := c_first_boxes.ex
  obtain ⟨f_peak_of, fd_peak_of, st_peak_of, F_peak_of, kp_peak_of, b_peak_of, m_peak_of, u_peak_of⟩ := c_peak_of.ex
  obtain ⟨f_loads_of, fd_loads_of, st_loads_of, F_loads_of, kp_loads_of, b_loads_of, m_loads_of, u_loads_of⟩ := c_loads_of.ex
  obtain ⟨f_lives_of, fd_lives_of, st_lives_of, F_lives_of, kp_lives_of, b_lives_of, m_lives_of, u_lives_of⟩ := c_lives_of.ex
  obtain ⟨f_live_at, fd_live_at, st_live_at, F_live_at, kp_live_at, b_live_at, m_live_at, u_live_at⟩ := c_live_at.ex
  obtain ⟨f_need_boxes, fd_need_boxes, st_need_boxes, F_need_boxes, kp_need_boxes, b_need_boxes, m_need_boxes, u_need_boxes⟩ := c_need_boxes.ex
  obtain ⟨f_check_boxes, fd_check_boxes, st_check_boxes, F_check_boxes, kp_check_boxes, b_check_boxes, m_check_boxes, u_check_boxes⟩ := c_check_boxes.ex
  refine T.okD (xf := xf) (k := 8) scLawRefusedRight (fun rs Qd Ed hp => ?_) fun f A outer s H Hd E rs Qd Ed hr hgd xw hp => ?_
  · obtain ⟨t, _, rfl, _⟩ := hp; rfl
  refine ⟨_, (ss_cons (s_set (ps_set (i := 1) scLawRefusedRight.nd rfl (by first | exact .inl rfl | exact .inr rfl) (q_fz (q_lst (a_cons (q_tup (a_cons q_non (a_cons q_non a_nil))) (a_cons (q_tup (a_cons (q_tup (a_cons q_int (a_cons (q_tup a_nil) (a_cons (q_tup (a_cons q_int a_nil)) a_nil)))) (a_cons q_str a_nil))) (a_cons (q_tup (a_cons (q_tup (a_cons q_int (a_cons (q_tup a_nil) (a_cons (q_tup (a_cons q_int a_nil)) a_nil)))) (a_cons q_str a_nil))) (a_cons (q_tup (a_cons (q_tup (a_cons q_int (a_cons (q_lst a_nil) (a_cons (q_tup (a_cons q_int a_nil)) a_nil)))) (a_cons q_str a_nil))) (a_cons (q_tup (a_cons (q_tup (a_cons q_int (a_cons (q_tup (a_cons (q_tup (a_cons q_str (a_cons q_int a_nil))) a_nil)) (a_cons (q_tup (a_cons q_int a_nil)) a_nil)))) (a_cons (q_tup (a_cons q_str (a_cons q_int a_nil))) a_nil))) (a_cons (q_tup (a_cons (q_tup (a_cons q_int (a_cons (q_tup a_nil) (a_cons (q_tup a_nil) a_nil)))) (a_cons q_str a_nil))) (a_cons (q_tup (a_cons (q_tup (a_cons q_int (a_cons (q_tup a_nil) (a_cons (q_tup (a_cons q_int a_nil)) a_nil)))) (a_cons (q_tup (a_cons q_str (a_cons q_int a_nil))) a_nil))) a_nil))))))))))) (ss_cons (s_for (ps_for (passes_of rfl) rfl (i_seq rfl (q_var (pv 1))) (g_tup (n := 2) rfl rfl (g_cons (g_name (pg_name (i := 2) scLawRefusedRight.nd rfl (by first | exact .inl rfl | exact .inr rfl))) (g_cons (g_name (pg_name (i := 3) scLawRefusedRight.nd rfl (by first | exact .inl rfl | exact .inr rfl))) g_nil))) (ss_cons (s_for (ps_for (passes_of rfl) rfl (i_seq rfl (q_tup (a_cons (q_def (by rfl) m_lives_of) (a_cons (q_def (by rfl) m_loads_of) (a_cons (q_def (by rfl) m_peak_of) (a_cons (q_def (by rfl) m_first_boxes) (a_cons (q_def (by rfl) m_box_paper) a_nil))))))) (g_name (pg_name (i := 4) scLawRefusedRight.nd rfl (by first | exact .inl rfl | exact .inr rfl))) (ss_one (s_if (t_bin (o_ne rfl) (pt_cmpR (op_neU hr.units) (q_told (is := [2, 4]) rfl rfl h__law_told.ok (pe_told (k := 6) h__law_told.T scLawTold rfl (.inl rfl) (h__law_told.gv _ _ rfl rfl) (by rfl) L_me rfl (hr.mono (by decide)) (LamX.lamS_by (by kernel_rfl)) rfl (fun _ _ _ _ _ => rfl) (fun A outer s H E f c' hr => pe_body fun H0 Hd0 Ed xw => (q_callV (tab := [(f_lives_of, (PLivesOf xa)), (f_loads_of, (PLoadsOf xa)), (f_peak_of, (PPeakOf xa)), (f_first_boxes, (PFirstBoxes xa)), (f_box_paper, (PBoxPaper xa)), (f_live_at, (PLiveAt xa)), (f_need_boxes, (PNeedBoxes xa)), (f_check_boxes, (PCheckBoxes xa))]) xw (pe_callV (i := 4) (held_cons ⟨⟨_, _, _, F_lives_of, by decide, kp_lives_of, b_lives_of⟩⟩ (held_cons ⟨⟨_, _, _, F_loads_of, by decide, kp_loads_of, b_loads_of⟩⟩ (held_cons ⟨⟨_, _, _, F_peak_of, by decide, kp_peak_of, b_peak_of⟩⟩ (held_cons ⟨⟨_, _, _, F_first_boxes, by decide, kp_first_boxes, b_first_boxes⟩⟩ (held_cons ⟨⟨_, _, _, F_box_paper, by decide, kp_box_paper, b_box_paper⟩⟩ (held_cons ⟨⟨_, _, _, F_live_at, by decide, kp_live_at, b_live_at⟩⟩ (held_cons ⟨⟨_, _, _, F_need_boxes, by decide, kp_need_boxes, b_need_boxes⟩⟩ (held_cons ⟨⟨_, _, _, F_check_boxes, by decide, kp_check_boxes, b_check_boxes⟩⟩ held_nil)))))))) hr (by rfl) (by first | exact .inl rfl | exact .inr (.inl rfl) | exact .inr (.inr rfl)) (takes_of rfl rfl rfl rfl) (a_cons (q_var (pv 2)) a_nil)))))) (q_tup (a_cons q_str (a_cons (q_var (pv 3)) a_nil))) (nomark _))) (ss_one (s_ret q_bl)) ss_nil)))) (ss_one (s_for (ps_for (passes_of rfl) rfl (i_seq rfl (q_tup (a_cons (q_def (by rfl) m_live_at) (a_cons (q_def (by rfl) m_need_boxes) (a_cons (q_def (by rfl) m_check_boxes) a_nil))))) (g_name (pg_name (i := 4) scLawRefusedRight.nd rfl (by first | exact .inl rfl | exact .inr rfl))) (ss_one (s_if (t_bin (o_ne rfl) (pt_cmpR (op_neU hr.units) (q_told (is := [2, 4]) rfl rfl h__law_told.ok (pe_told (k := 6) h__law_told.T scLawTold rfl (.inl rfl) (h__law_told.gv _ _ rfl rfl) (by rfl) L_me rfl (hr.mono (by decide)) (LamX.lamS_by (by kernel_rfl)) rfl (fun _ _ _ _ _ => rfl) (fun A outer s H E f c' hr => pe_body fun H0 Hd0 Ed xw => (q_callV (tab := [(f_lives_of, (PLivesOf xa)), (f_loads_of, (PLoadsOf xa)), (f_peak_of, (PPeakOf xa)), (f_first_boxes, (PFirstBoxes xa)), (f_box_paper, (PBoxPaper xa)), (f_live_at, (PLiveAt xa)), (f_need_boxes, (PNeedBoxes xa)), (f_check_boxes, (PCheckBoxes xa))]) xw (pe_callV (i := 4) (held_cons ⟨⟨_, _, _, F_lives_of, by decide, kp_lives_of, b_lives_of⟩⟩ (held_cons ⟨⟨_, _, _, F_loads_of, by decide, kp_loads_of, b_loads_of⟩⟩ (held_cons ⟨⟨_, _, _, F_peak_of, by decide, kp_peak_of, b_peak_of⟩⟩ (held_cons ⟨⟨_, _, _, F_first_boxes, by decide, kp_first_boxes, b_first_boxes⟩⟩ (held_cons ⟨⟨_, _, _, F_box_paper, by decide, kp_box_paper, b_box_paper⟩⟩ (held_cons ⟨⟨_, _, _, F_live_at, by decide, kp_live_at, b_live_at⟩⟩ (held_cons ⟨⟨_, _, _, F_need_boxes, by decide, kp_need_boxes, b_need_boxes⟩⟩ (held_cons ⟨⟨_, _, _, F_check_boxes, by decide, kp_check_boxes, b_check_boxes⟩⟩ held_nil)))))))) hr (by rfl) (by first | exact .inl rfl | exact .inr (.inl rfl) | exact .inr (.inr rfl)) (takes_of rfl rfl rfl rfl) (a_cons (q_var (pv 2)) (a_cons q_non a_nil))))))) (q_tup (a_cons q_str (a_cons (q_var (pv 3)) a_nil))) (nomark _))) (ss_one (s_ret q_bl)) ss_nil)))))))) (ss_cons (s_for (ps_for (passes_of rfl) rfl (i_seq rfl (q_tup (a_cons (q_neg q_int) (a_cons (q_bin (o_add rfl) (pe_op op_addU (q_b (n_len rfl) (pe_callB call_len (by rfl) m_len PySem.boot_len (a_cons (q_ixV rfl (pe_ix ix_seq (pv 0) q_int (fun _ _ => rfl))) a_nil))) q_int)) (a_cons q_non (a_cons q_bl (a_cons q_str a_nil))))))) (g_name (pg_name (i := 5) scLawRefusedRight.nd rfl (by first | exact .inl rfl | exact .inr rfl))) (ss_one (s_if (t_bin (o_ne rfl) (pt_cmpR (op_neU hr.units) (q_b (n_repr rfl) (pe_callB (XV.call_reprD (hgd rfl) hr.units) (by rfl) m_repr PyProof.Rows.boot_repr (a_cons (q_told (is := [0, 5]) rfl rfl h__law_told.ok (pe_told (k := 6) h__law_told.T scLawTold rfl (.inl rfl) (h__law_told.gv _ _ rfl rfl) (by rfl) L_me rfl (hr.mono (by decide)) (LamX.lamS_by (by kernel_rfl)) rfl (fun _ _ _ _ _ => rfl) (fun A outer s H E f c' hr => pe_body fun H0 Hd0 Ed xw => (q_call xw (pe_gc c_live_at hr (by decide) (fun z => nomatch z) (by rfl) (takes_of rfl rfl rfl rfl) (a_cons (q_var (pv 0)) (a_cons (q_var (pv 5)) a_nil))))))) a_nil))) (q_b (n_repr rfl) (pe_callB (XV.call_reprD (hgd rfl) hr.units) (by rfl) m_repr PyProof.Rows.boot_repr (a_cons (q_tup (a_cons q_str (a_cons (q_var (pv 5)) a_nil))) a_nil))) (nomark _))) (ss_one (s_ret q_bl)) ss_nil)))) (ss_one (s_ret q_bl))))), ?_⟩
  obtain ⟨t, ok, rfl, q⟩ := hp
  have h64 : t.rows.length ≤ 400 := ok.rl
  have lr : (t.rows.map Row.enc).length = t.rows.length := List.length_map _
  refine set_i (.da (.list (badT.map fun p => PyData.tuple [p.1, p.2]))) [.da t.enc, .un, .un, .un, .un, .un] [_, _, _, _, _, _] (fun Q h => by (conv => whnf); exact h) (fun Q h => h) ?_
  refine seq_i (for_i (badT.map fun p => Sl.da (.tuple [p.1, p.2])) [_, _, _, _, _, _] (fun Q h => by (conv => whnf); exact h) ?_)
  refine forGo_ind (α := D × D) (f := fun p => .da (.tuple [p.1, p.2])) (fun rest ρ => (∀ x ∈ rest, x ∈ badT) ∧ ∃ a b c e, ρ = [.da t.enc, .da (.list (badT.map fun p => PyData.tuple [p.1, p.2])), a, b, c, e]) ?_ ?_ badT _ ⟨fun _ h => h, _, _, _, _, rfl⟩
  · rintro ⟨d, p⟩ rest ρ W hW ⟨hb, a, b, c, e, rfl⟩
    have hx := hb (d, p) (by simp)
    have gp := (gd_two ((gd_str "tape").mono (Nat.zero_le 1) (by decide +kernel : 10 * ("tape" : Str).length + 2 ≤ 100)) (gd_bad hx))
    have ne : (!PyData.eqv (.tuple [.str "tape", p]) (.tuple [.str "tape", p])) = false := by rw [gp.eqv]; rfl
    (conv => whnf)
    refine ⟨0, ?_⟩
    (conv => whnf)
    refine ⟨rfl, ?_⟩
    (conv => whnf)
    refine .inr ⟨d, p, hx, rfl, ?_⟩
    refine ⟨_, tx_kindsT_BadTape xa _, ?_⟩
    (conv => whnf)
    refine ⟨gp.shaped, gp.shaped, ?_⟩
    (conv => whnf)
    refine cnd_f ne ?_
    (conv => whnf)
    refine ⟨1, ?_⟩
    (conv => whnf)
    refine ⟨rfl, ?_⟩
    (conv => whnf)
    refine .inr ⟨d, p, hx, rfl, ?_⟩
    refine ⟨_, tx_kindsT_BadTape xa _, ?_⟩
    (conv => whnf)
    refine ⟨gp.shaped, gp.shaped, ?_⟩
    (conv => whnf)
    refine cnd_f ne ?_
    (conv => whnf)
    refine ⟨2, ?_⟩
    (conv => whnf)
    refine ⟨rfl, ?_⟩
    (conv => whnf)
    refine .inr ⟨d, p, hx, rfl, ?_⟩
    refine ⟨_, tx_kindsT_BadTape xa _, ?_⟩
    (conv => whnf)
    refine ⟨gp.shaped, gp.shaped, ?_⟩
    (conv => whnf)
    refine cnd_f ne ?_
    (conv => whnf)
    refine ⟨3, ?_⟩
    (conv => whnf)
    refine ⟨rfl, ?_⟩
    (conv => whnf)
    refine .inr ⟨d, p, hx, rfl, ?_⟩
    refine ⟨_, tx_kindsT_BadTape xa _, ?_⟩
    (conv => whnf)
    refine ⟨gp.shaped, gp.shaped, ?_⟩
    (conv => whnf)
    refine cnd_f ne ?_
    (conv => whnf)
    refine ⟨4, ?_⟩
    (conv => whnf)
    refine ⟨rfl, ?_⟩
    (conv => whnf)
    refine .inr ⟨d, p, hx, rfl, ?_⟩
    refine ⟨_, tx_kindsT_BadTape xa _, ?_⟩
    (conv => whnf)
    refine ⟨gp.shaped, gp.shaped, ?_⟩
    (conv => whnf)
    refine cnd_f ne ?_
    (conv => whnf)
    refine ⟨5, ?_⟩
    (conv => whnf)
    refine ⟨rfl, ?_⟩
    (conv => whnf)
    refine .inr (.inr ⟨d, p, _, hx, rfl, ?_⟩)
    refine ⟨_, tx_kindsT_BadTape xa _, ?_⟩
    (conv => whnf)
    refine ⟨gp.shaped, gp.shaped, ?_⟩
    (conv => whnf)
    refine cnd_f ne ?_
    (conv => whnf)
    refine ⟨6, ?_⟩
    (conv => whnf)
    refine ⟨rfl, ?_⟩
    (conv => whnf)
    refine .inr ⟨d, p, _, hx, rfl, ?_⟩
    refine ⟨_, tx_kindsT_BadTape xa _, ?_⟩
    (conv => whnf)
    refine ⟨gp.shaped, gp.shaped, ?_⟩
    (conv => whnf)
    refine cnd_f ne ?_
    (conv => whnf)
    refine ⟨7, ?_⟩
    (conv => whnf)
    refine ⟨rfl, ?_⟩
    (conv => whnf)
    refine .inr ⟨d, p, _, hx, rfl, ?_⟩
    refine ⟨_, tx_kindsT_BadTape xa _, ?_⟩
    (conv => whnf)
    refine ⟨gp.shaped, gp.shaped, ?_⟩
    (conv => whnf)
    refine cnd_f ne ?_
    exact hW _ ⟨fun x hx => hb x (by simp [hx]), _, _, _, _, rfl⟩
  · rintro ρ ⟨-, a, b, c, e, rfl⟩
    have odd : ∀ o, o = .int (-1) ∨ o = .int ((t.rows.map Row.enc).length + 1) ∨ o = .none ∨ o = .bool true ∨ o = .str "0" → wholeD o 0 t.rows.length = false ∧ shOk (.tuple [.str "number", o]) := by
      intro o ho
      rw [lr] at ho
      have two : ∀ {o : D}, Gd 0 100 o → shOk (.tuple [.str "number", o]) := fun h => (gd_two ((gd_str "number").mono (Nat.le_refl _) (by decide +kernel : 10 * ("number" : Str).length + 2 ≤ 100)) h).shOk
      rcases ho with rfl | rfl | rfl | rfl | rfl
      · exact ⟨rfl, two ((gd_int (i := -1) (k := 9) (by decide)).mono (by decide) (by decide))⟩
      · refine ⟨?_, two ((gd_nat (n := t.rows.length + 1) (k := 9) (by omega)).mono (by decide) (by decide))⟩
        show (decide ((0 : Int) ≤ (t.rows.length : Int) + 1) && decide ((t.rows.length : Int) + 1 ≤ (t.rows.length : Nat))) = false
        rw [decide_eq_false (show ¬ (t.rows.length : Int) + 1 ≤ (t.rows.length : Nat) by omega), Bool.and_false]
      · exact ⟨rfl, two (gd_none.mono (by decide) (by decide))⟩
      · exact ⟨rfl, two ((gd_bool true).mono (by decide) (by decide))⟩
      · exact ⟨rfl, two ((gd_str "0").mono (by decide) (by decide +kernel))⟩
    (conv => whnf)
    refine .inr (.inl ⟨t, _, ok, (odd _ (.inl rfl)).1, rfl, ?_⟩)
    refine ⟨_, tx_kindsT_BadNumber xa _, ?_⟩
    (conv => whnf)
    refine ⟨(odd _ (.inl rfl)).2, ?_⟩
    (conv => whnf)
    refine ⟨(odd _ (.inl rfl)).2, ?_⟩
    (conv => whnf)
    refine cnd_f (shw_nn rfl) ?_
    (conv => whnf)
    refine .inr (.inl ⟨t, _, ok, (odd _ (.inr (.inl rfl))).1, rfl, ?_⟩)
    refine ⟨_, tx_kindsT_BadNumber xa _, ?_⟩
    (conv => whnf)
    refine ⟨(odd _ (.inr (.inl rfl))).2, ?_⟩
    (conv => whnf)
    refine ⟨(odd _ (.inr (.inl rfl))).2, ?_⟩
    (conv => whnf)
    refine cnd_f (shw_nn rfl) ?_
    (conv => whnf)
    refine .inr (.inl ⟨t, _, ok, (odd _ (.inr (.inr (.inl rfl)))).1, rfl, ?_⟩)
    refine ⟨_, tx_kindsT_BadNumber xa _, ?_⟩
    (conv => whnf)
    refine ⟨(odd _ (.inr (.inr (.inl rfl)))).2, ?_⟩
    (conv => whnf)
    refine ⟨(odd _ (.inr (.inr (.inl rfl)))).2, ?_⟩
    (conv => whnf)
    refine cnd_f (shw_nn rfl) ?_
    (conv => whnf)
    refine .inr (.inl ⟨t, _, ok, (odd _ (.inr (.inr (.inr (.inl rfl))))).1, rfl, ?_⟩)
    refine ⟨_, tx_kindsT_BadNumber xa _, ?_⟩
    (conv => whnf)
    refine ⟨(odd _ (.inr (.inr (.inr (.inl rfl))))).2, ?_⟩
    (conv => whnf)
    refine ⟨(odd _ (.inr (.inr (.inr (.inl rfl))))).2, ?_⟩
    (conv => whnf)
    refine cnd_f (shw_nn rfl) ?_
    (conv => whnf)
    refine .inr (.inl ⟨t, _, ok, (odd _ (.inr (.inr (.inr (.inr rfl))))).1, rfl, ?_⟩)
    refine ⟨_, tx_kindsT_BadNumber xa _, ?_⟩
    (conv => whnf)
    refine ⟨(odd _ (.inr (.inr (.inr (.inr rfl))))).2, ?_⟩
    (conv => whnf)
    refine ⟨(odd _ (.inr (.inr (.inr (.inr rfl))))).2, ?_⟩
    (conv => whnf)
    refine cnd_f (shw_nn rfl) ?_
    exact q
end
end K81

-- DL20
set_option autoImplicit true
namespace DL
open PySem PySem.Spec PyProof.Rows L2
/-! ### tuple(range(..)), list(range(..)) -/
def rgD (a b : Int) : List D := (List.range (b - a).toNat).map fun i => .int (a + (i : Nat))
theorem rg_all {K : PySem.W.Frag} {H : Hp} {a b : Int} : DqAll K H (rgV a b) (rgD a b) := by
  unfold rgV rgD
  have : ∀ l : List Nat, DqAll K H (l.map fun i => V.int (a + (i : Nat))) (l.map fun i => PyData.int (a + (i : Nat))) := by
    intro l
    induction l with
    | nil => exact .nil
    | cons i l ih => exact .cons (.int _) ih
  exact this _
section
variable {X : Cx} {C : DC} {e : Expr} {ta tb : TD}
def rgK (a b : Int) (Q : Prop) : Prop := (RgOk a b) ∧ Q
def dTupR1 (ta : TD) : TD := fun ρ Q => ta ρ fun s ρ1 => match s with
  | .da (.int n) => RgOk 0 n ∧ Q (.da (.tuple (rgD 0 n))) ρ1
  | _ => False
def dTupR2 (ta tb : TD) : TD := fun ρ Q => ta ρ fun s ρ1 => tb ρ1 fun s' ρ2 => match s, s' with
  | .da (.int a), .da (.int b) => RgOk a b ∧ Q (.da (.tuple (rgD a b))) ρ2
  | _, _ => False
def dLstR1 (ta : TD) : TD := fun ρ Q => ta ρ fun s ρ1 => match s with
  | .da (.int n) => RgOk 0 n ∧ Q (.ow (.l (rgD 0 n))) ρ1
  | _ => False
def dLstR2 (ta tb : TD) : TD := fun ρ Q => ta ρ fun s ρ1 => tb ρ1 fun s' ρ2 => match s, s' with
  | .da (.int a), .da (.int b) => RgOk a b ∧ Q (.ow (.l (rgD a b))) ρ2
  | _, _ => False
theorem q_tupR1 (h : PE X e (tTupRg (tRg1 (LE C ta)))) : PE X e (LE C (dTupR1 ta)) := imp_e h fun σ H Q ⟨Hd, ρ, vs, ss, Qd, E, k, q⟩ =>
  ⟨Hd, ρ, vs, ss, _, E, fun s ρ1 v Hd1 H1 q1 E1 => by
    split at q1
    · cases dp_int E1.top
      exact ⟨_, rfl, q1.1, fun p np => k _ _ _ _ _ q1.2 (E1.drop.newT np rg_all)⟩
    · exact q1.elim, q⟩
theorem q_lstR1 (h : PE X e (tLstRg (tRg1 (LE C ta)))) : PE X e (LE C (dLstR1 ta)) := imp_e h fun σ H Q ⟨Hd, ρ, vs, ss, Qd, E, k, q⟩ =>
  ⟨Hd, ρ, vs, ss, _, E, fun s ρ1 v Hd1 H1 q1 E1 => by
    split at q1
    · cases dp_int E1.top
      exact ⟨_, rfl, q1.1, fun p np => k _ _ _ _ _ q1.2 (E1.drop.newL np rg_all)⟩
    · exact q1.elim, q⟩
theorem q_tupR2 (h : PE X e (tTupRg (tRg2 (LE C ta) (LE C tb)))) : PE X e (LE C (dTupR2 ta tb)) := imp_e h fun σ H Q ⟨Hd, ρ, vs, ss, Qd, E, k, q⟩ =>
  two E q fun x y sx sy ρ2 Hd2 H2 q2 E2 => by
    split at q2
    · cases dp_int E2.top
      cases dp_int E2.drop.top
      exact ⟨_, _, rfl, rfl, q2.1, fun p np => k _ _ _ _ _ q2.2 (E2.drop.drop.newT np rg_all)⟩
    · exact q2.elim
theorem q_lstR2 (h : PE X e (tLstRg (tRg2 (LE C ta) (LE C tb)))) : PE X e (LE C (dLstR2 ta tb)) := imp_e h fun σ H Q ⟨Hd, ρ, vs, ss, Qd, E, k, q⟩ =>
  two E q fun x y sx sy ρ2 Hd2 H2 q2 E2 => by
    split at q2
    · cases dp_int E2.top
      cases dp_int E2.drop.top
      exact ⟨_, _, rfl, rfl, q2.1, fun p np => k _ _ _ _ _ q2.2 (E2.drop.drop.newL np rg_all)⟩
    · exact q2.elim
end
theorem atD_some {α : Type} {xs : List α} {j : Int} (h1 : -(xs.length : Int) ≤ j) (h2 : j < xs.length) : ∃ d, atD xs j = some d ∧ d ∈ xs := by
  cases j with
  | ofNat n =>
    have hn : n < xs.length := by have : (n : Int) < xs.length := h2; omega
    exact ⟨xs[n], by show xs[n]? = _; simp [hn], List.getElem_mem _⟩
  | negSucc n =>
    have hn : n < xs.length := by omega
    refine ⟨xs[xs.length - 1 - n]'(by omega), ?_, List.getElem_mem _⟩
    show (if n < xs.length then xs[xs.length - 1 - n]? else none) = _
    rw [if_pos hn]
    exact List.getElem?_eq_getElem _
end DL

-- K81K
set_option autoImplicit false
namespace K81
open PySem PySem.Spec PyProof.Rows L2 DL TP
section
variable {P : Program} {w : World} {K : PySem.W.Frag} {mg : Str → Option Value} {base : Heap} {xf : XT} {xa : Str → Addr}
abbrev sLawBoxesRight : Stmt := topS 56
abbrev nLawBoxesRight : List Str := ["state", "tape", "first", "many", "drawn", "at", "things", "box", "odd", "paper", "papers", "thing", "wrong", "told", "some", "due"]
theorem scLawBoxesRight : FnScope nLawBoxesRight ["state", "tape"] (defScope sLawBoxesRight) := ⟨rfl, rfl, rfl, by decide +kernel, rfl, by decide +kernel, by decide +kernel⟩
def PLawBoxesRight : PB := fun o rs Qd _ => ∃ (n : Nat) (t : Tape), o = .st n ∧ t.Ok ∧ t.rows.length ≤ 100 ∧ n ≤ 100000000 ∧ rs = [.da t.enc] ∧ ∀ n', n' ≤ n + 1000 → Qd (.bool true) (.st n')
theorem c__law_boxes_right {cme Pme : Addr} (T : TxtL K mg "_law_boxes_right" sLawBoxesRight ["state", "tape"] cme) (L_me : LamH K mg base xf.T "_law_boxes_right.<locals>.<lambda>" cme Pme) (B : Blt mg) (c__law_boxes : CalG P w K mg base false 3 "_law_boxes" ["tape"] (spD K xf PLawBoxes)) (c__law_loads : CalG P w K mg base false 3 "_law_loads" ["tape"] (spD K xf PLawLoads)) (c_first_boxes : CalG P w K mg base false 6 "first_boxes" ["tape"] (spD K xf (PFirstBoxes xa))) (c__law_digit : CalG P w K mg base false 2 "_law_digit" ["state", "below"] (spB K xf PLawDigit)) (c__law_drawn_boxes : CalG P w K mg base false 3 "_law_drawn_boxes" ["state", "tape", "most"] (spB K xf PLawDrawnBoxes)) (c_box_paper : CalG P w K mg base false 6 "box_paper" ["tape"] (spD K xf (PBoxPaper xa))) (c_check_boxes : CalG P w K mg base false 6 "check_boxes" ["tape", "paper"] (spD K xf (PCheckBoxes xa))) (c__law_due : CalG P w K mg base false 4 "_law_due" ["tape", "paper"] (spD K xf PLawDue)) (c__law_wrong : CalG P w K mg base false 3 "_law_wrong" ["tape", "thing"] (spD K xf PLawWrong)) (c_need_boxes : CalG P w K mg base false 6 "need_boxes" ["tape", "boxes"] (spD K xf (PNeedBoxes xa))) (t_first_boxes : TxtF K mg "first_boxes" sFirstBoxes ["tape"]) (t_box_paper : TxtF K mg "box_paper" sBoxPaper ["tape"]) (t_check_boxes : TxtF K mg "check_boxes" sCheckBoxes ["tape", "paper"]) (t_need_boxes : TxtF K mg "need_boxes" sNeedBoxes ["tape", "boxes"]) (h__law_told : ToldH K mg xf "_law_told" "deed" nLawTold sLawTold tvT (txT (kindsT xa)) (TTd (kindsT xa))) : CalG P w K mg base true 9 "_law_boxes_right" ["state", "tape"] (spB K xf PLawBoxesRight) := by
  have m_len := B.len
  have m_max := B.max
  have m_list := B.list
  have m_set := B.set
  have m_repr := B.repr
  have m_tuple := B.tuple
  have m_range := B.range
  have m_isinstance := B.isinstance
  refine T.okB (xf := xf) (k := 8) scLawBoxesRight (fun o rs Qd Ed hp => ?_) fun f A outer s H Hd E B0 o rs Qd Ed hr hgd hp => ?_
  · obtain ⟨n, t, _, _, _, _, rfl, _⟩ := hp; rfl
  refine ⟨_, (ss_cons (s_par (by decide) (ps_par (i := 2) (j := 3) rfl scLawBoxesRight.nd rfl rfl (by decide) rfl rfl (a_cons (q_call (xw0 (xf := xf)) (pe_gc0 c__law_boxes hr (by decide) (fun z => nomatch z) (by rfl) (a_cons (q_var (pv 1)) a_nil))) (a_cons (q_b (n_len rfl) (pe_callB call_len (by rfl) m_len PySem.boot_len (a_cons (q_ixV rfl (pe_ix ix_seq (pv 1) q_int (fun _ _ => rfl))) a_nil))) a_nil)) (by rfl))) (ss_cons (s_if (t_w (w_or (t_bin (o_ne rfl) (pt_cmpR (op_neU hr.units) (q_b (n_repr rfl) (pe_callB (XV.call_reprD (hgd rfl) hr.units) (by rfl) m_repr PyProof.Rows.boot_repr (a_cons (q_callKw (perm := fun {_} => pick [0]) (fun h => pick_args h _) (xw0 (xf := xf)) (pe_gck0 (ks := ["tape"]) (is := [0]) c_first_boxes t_first_boxes (fun _ _ _ _ _ _ ws hl => match ws, hl with | [_], _ => rfl) hr (by decide) (fun z => nomatch z) (by rfl) (k_cons (q_var (pv 1)) k_nil))) a_nil))) (q_b (n_repr rfl) (pe_callB (XV.call_reprD (hgd rfl) hr.units) (by rfl) m_repr PyProof.Rows.boot_repr (a_cons (q_var (pv 2)) a_nil))) (nomark _))) (w_or (t_bin (o_ne rfl) (pt_cmpR (op_neU hr.units) (q_lenSet rfl (XV.pe_lenSetA (by rfl) m_len (by rfl) m_set (q_var (pv 2)))) (q_b n_max (pe_callB (cr_max rfl) (by rfl) m_max PyProof.Rows.boot_max (a_cons (q_call (xw0 (xf := xf)) (pe_gc0 c__law_loads hr (by decide) (fun z => nomatch z) (by rfl) (a_cons (q_var (pv 1)) a_nil))) a_nil))) (nomark _))) (w_or1 (t_bin (o_ne rfl) (pt_cmpR (op_neU hr.units) (q_b n_max (pe_callB (cr_max rfl) (by rfl) m_max PyProof.Rows.boot_max (a_cons (q_bin (o_add rfl) (pe_op op_addU (q_b (n_list rfl) (pe_callTy call_list_of (by rfl) m_list PyProof.Rows.boot_list (a_cons (q_var (pv 2)) a_nil))) (q_lst (a_cons (q_neg q_int) a_nil)))) a_nil))) (q_bin o_sub (pe_op op_sub (q_lenSet rfl (XV.pe_lenSetA (by rfl) m_len (by rfl) m_set (q_var (pv 2)))) q_int)) (nomark _))))))) (ss_one (s_ret q_bl)) ss_nil) (ss_cons (s_par (by decide) (ps_par (i := 4) (j := 5) rfl scLawBoxesRight.nd rfl rfl (by decide) rfl rfl (a_cons (q_callB rfl (pe_gc0 c__law_drawn_boxes hr (by decide) (fun z => nomatch z) (by rfl) (pa_cons (pv 0) (a_cons (q_var (pv 1)) (a_cons q_int a_nil))))) (a_cons (q_callB rfl (pe_gc0 c__law_digit hr (by decide) (fun z => nomatch z) (by rfl) (pa_cons (pv 0) (a_cons (q_bin (o_add rfl) (pe_op op_addU (q_var (pv 3)) q_int)) a_nil)))) a_nil)) (by rfl))) (ss_cons (s_set (ps_set (i := 6) scLawBoxesRight.nd rfl (by first | exact .inl rfl | exact .inr rfl) (q_lst (a_cons (q_var (pv 2)) (a_cons (q_var (pv 4)) (a_cons q_non (a_cons (q_b (n_list rfl) (pe_callTy call_list_of (by rfl) m_list PyProof.Rows.boot_list (a_cons (q_var (pv 2)) a_nil))) (a_cons (q_bin (o_add rfl) (pe_op op_addU (q_var (pv 2)) (q_tup (a_cons q_int a_nil)))) (a_cons (q_sl rfl (q_var (pv 2)) (po_s q_int) po_n) (a_cons (q_bin (o_mul rfl) (pe_op op_mulU (q_tup (a_cons q_int a_nil)) (q_var (pv 3)))) (a_cons (q_tupR1 (pe_tupRg rfl (by rfl) m_tuple (prg_1 (by rfl) m_range (q_var (pv 3))))) (a_cons (q_b (n_tuple rfl) (pe_callTy call_tuple_of (by rfl) m_tuple PyProof.Rows.boot_tuple (a_cons (q_lc (is := [7]) (js := [7]) (by decide) (pe_lc (own := [("box", 7)]) rfl scLawBoxesRight.nd (i_seq rfl (q_var (pv 2))) (blkOk_by (N := nLawBoxesRight) (sc := defScope sLawBoxesRight) (by decide +kernel)) (fun _ _ _ _ _ => (g_name (pg_name (i := 7) scLawBoxesRight.nd rfl (by first | exact .inl rfl | exact .inr rfl)))) (fun _ _ _ _ _ => yes_le) (fun _ _ _ _ _ => (q_bin o_sub (pe_op op_sub q_int (q_var (pv 7))))))) a_nil))) a_nil)))))))))))) (ss_cons (s_for (ps_for (passes_of rfl) rfl (i_seq rfl (q_tup (a_cons q_int (a_cons (q_neg q_int) (a_cons q_non (a_cons q_bl (a_cons q_str (a_cons (q_if (t_bin o_gt (pt_cmpR op_gt (q_var (pv 3)) q_int (nomark _))) (q_ixV rfl (pe_ix ix_seq (pv 2) (q_bin o_sub (pe_op op_sub (q_var (pv 5)) q_int)) (fun _ _ => rfl))) q_int) (a_cons (q_if (t_bin o_gt (pt_cmpR op_gt (q_var (pv 3)) q_int (nomark _))) (q_ixV rfl (pe_ix ix_seq (pv 4) (q_bin o_sub (pe_op op_sub (q_var (pv 5)) q_int)) (fun _ _ => rfl))) q_int) a_nil))))))))) (g_name (pg_name (i := 8) scLawBoxesRight.nd rfl (by first | exact .inl rfl | exact .inr rfl))) (ss_one (s_expr (q_app (pe_bm PySem.F.plainAttrs_list PySem.F.slot_list_append PySem.F.type_list_append mt_append (pv 6) (a_cons (q_bin (o_add rfl) (pe_op op_addU (q_bin (o_add rfl) (pe_op op_addU (q_sl rfl (q_var (pv 2)) po_n (po_s (q_var (pv 5)))) (q_tup (a_cons (q_var (pv 8)) a_nil)))) (q_sl rfl (q_var (pv 2)) (po_s (q_bin (o_add rfl) (pe_op op_addU (q_var (pv 5)) q_int))) po_n))) a_nil))))))) (ss_cons (s_set (ps_set (i := 9) scLawBoxesRight.nd rfl (by first | exact .inl rfl | exact .inr rfl) (q_callKw (perm := fun {_} => pick [0]) (fun h => pick_args h _) (xw0 (xf := xf)) (pe_gck0 (ks := ["tape"]) (is := [0]) c_box_paper t_box_paper (fun _ _ _ _ _ _ ws hl => match ws, hl with | [_], _ => rfl) hr (by decide) (fun z => nomatch z) (by rfl) (k_cons (q_var (pv 1)) k_nil))))) (ss_cons (s_if (t_w (w_or (t_bin (o_ne rfl) (pt_cmpR (op_neU hr.units) (q_b (n_repr rfl) (pe_callB (XV.call_reprD (hgd rfl) hr.units) (by rfl) m_repr PyProof.Rows.boot_repr (a_cons (q_call (xw0 (xf := xf)) (pe_gc0 c__law_due hr (by decide) (fun z => nomatch z) (by rfl) (a_cons (q_var (pv 1)) (a_cons (q_var (pv 9)) a_nil)))) a_nil))) (q_b (n_repr rfl) (pe_callB (XV.call_reprD (hgd rfl) hr.units) (by rfl) m_repr PyProof.Rows.boot_repr (a_cons (q_b n_max (pe_callB (cr_max rfl) (by rfl) m_max PyProof.Rows.boot_max (a_cons (q_call (xw0 (xf := xf)) (pe_gc0 c__law_loads hr (by decide) (fun z => nomatch z) (by rfl) (a_cons (q_var (pv 1)) a_nil))) a_nil))) a_nil))) (nomark _))) (w_or1 (t_bin (o_ne rfl) (pt_cmpR (op_neU hr.units) (q_b (n_repr rfl) (pe_callB (XV.call_reprD (hgd rfl) hr.units) (by rfl) m_repr PyProof.Rows.boot_repr (a_cons (q_callKw (perm := fun {_} => pick [1, 0]) (fun h => pick_args h _) (xw0 (xf := xf)) (pe_gck0 (ks := ["paper", "tape"]) (is := [1, 0]) c_check_boxes t_check_boxes (fun _ _ _ _ _ _ ws hl => match ws, hl with | [_, _], _ => rfl) hr (by decide) (fun z => nomatch z) (by rfl) (k_cons (q_var (pv 9)) (k_cons (q_var (pv 1)) k_nil)))) a_nil))) (q_b (n_repr rfl) (pe_callB (XV.call_reprD (hgd rfl) hr.units) (by rfl) m_repr PyProof.Rows.boot_repr (a_cons (q_b n_max (pe_callB (cr_max rfl) (by rfl) m_max PyProof.Rows.boot_max (a_cons (q_call (xw0 (xf := xf)) (pe_gc0 c__law_loads hr (by decide) (fun z => nomatch z) (by rfl) (a_cons (q_var (pv 1)) a_nil))) a_nil))) a_nil))) (nomark _)))))) (ss_one (s_ret q_bl)) ss_nil) (ss_cons (s_set (ps_set (i := 10) scLawBoxesRight.nd rfl (by first | exact .inl rfl | exact .inr rfl) (q_fz (q_lst (a_cons q_non (a_cons (q_tup a_nil) (a_cons (q_b (n_list rfl) (pe_callTy call_list_of (by rfl) m_list PyProof.Rows.boot_list (a_cons (q_var (pv 9)) a_nil))) (a_cons (q_bin (o_add rfl) (pe_op op_addU (q_var (pv 9)) (q_tup (a_cons q_int a_nil)))) (a_cons (q_sl rfl (q_var (pv 9)) po_n (po_s q_int)) (a_cons (q_tup (a_cons q_non (a_cons (q_ixV rfl (pe_ix ix_seq (pv 9) q_int (fun _ _ => rfl))) a_nil))) (a_cons (q_tup (a_cons (q_ixV rfl (pe_ix ix_seq (pv 9) q_int (fun _ _ => rfl))) (a_cons q_non a_nil))) (a_cons (q_tup (a_cons (q_ixV rfl (pe_ix ix_seq (pv 9) q_int (fun _ _ => rfl))) (a_cons (q_neg q_int) a_nil))) (a_cons (q_tup (a_cons (q_ixV rfl (pe_ix ix_seq (pv 9) q_int (fun _ _ => rfl))) (a_cons (q_bin (o_add rfl) (pe_op op_addU (q_var (pv 3)) q_int)) a_nil))) (a_cons (q_tup (a_cons (q_ixV rfl (pe_ix ix_seq (pv 9) q_int (fun _ _ => rfl))) (a_cons q_bl a_nil))) (a_cons (q_tup (a_cons (q_ixV rfl (pe_ix ix_seq (pv 9) q_int (fun _ _ => rfl))) (a_cons q_str a_nil))) a_nil))))))))))))))) (ss_cons (s_for (ps_for (passes_of rfl) rfl (i_seq rfl (q_var (pv 6))) (g_name (pg_name (i := 11) scLawBoxesRight.nd rfl (by first | exact .inl rfl | exact .inr rfl))) (ss_cons (s_set (ps_set (i := 12) scLawBoxesRight.nd rfl (by first | exact .inl rfl | exact .inr rfl) (q_call (xw0 (xf := xf)) (pe_gc0 c__law_wrong hr (by decide) (fun z => nomatch z) (by rfl) (a_cons (q_var (pv 1)) (a_cons (q_var (pv 11)) a_nil)))))) (ss_cons (s_set (ps_set (i := 13) scLawBoxesRight.nd rfl (by first | exact .inl rfl | exact .inr rfl) (q_told (is := [1, 11]) rfl rfl h__law_told.ok (pe_told (k := 6) h__law_told.T scLawTold rfl (.inl rfl) (h__law_told.gv _ _ rfl rfl) (by rfl) L_me rfl (hr.mono (by decide)) (LamX.lamS_by (by kernel_rfl)) rfl (fun _ _ _ _ _ => rfl) (fun A outer s H E f c' hr => pe_body fun H0 Hd0 Ed xw => (q_callKw (perm := fun {_} => pick [1, 0]) (fun h => pick_args h _) xw (pe_gck (ks := ["boxes", "tape"]) (is := [1, 0]) c_need_boxes t_need_boxes (fun _ _ _ _ _ _ ws hl => match ws, hl with | [_, _], _ => rfl) hr (by decide) (fun z => nomatch z) (by rfl) (takes_of rfl rfl rfl rfl) (k_cons (q_var (pv 11)) (k_cons (q_var (pv 1)) k_nil))))))))) (ss_cons (s_if (t_bin (o_ne rfl) (pt_cmpR (op_neU hr.units) (q_b (n_repr rfl) (pe_callB (XV.call_reprD (hgd rfl) hr.units) (by rfl) m_repr PyProof.Rows.boot_repr (a_cons (q_var (pv 13)) a_nil))) (q_b (n_repr rfl) (pe_callB (XV.call_reprD (hgd rfl) hr.units) (by rfl) m_repr PyProof.Rows.boot_repr (a_cons (q_if (t_bin (o_ne rfl) (pt_cmpR (op_neU hr.units) (q_var (pv 12)) (q_lst a_nil) (nomark _))) (q_tup (a_cons q_str (a_cons (q_ixV rfl (pe_ix ix_seq (pv 12) q_int (fun _ _ => rfl))) a_nil))) (q_tup (a_cons q_str (a_cons q_non a_nil)))) a_nil))) (nomark _))) (ss_one (s_ret q_bl)) ss_nil) (ss_one (s_set (ps_set (i := 10) scLawBoxesRight.nd rfl (by first | exact .inl rfl | exact .inr rfl) (q_fz (q_bin (o_add rfl) (pe_op op_addU (q_var (pv 10)) (q_lst (a_cons (q_tup (a_cons (q_var (pv 11)) (a_cons (q_ixV rfl (pe_ix ix_seq (pv 9) q_int (fun _ _ => rfl))) a_nil))) (a_cons (q_tup (a_cons (q_var (pv 11)) (a_cons (q_callB rfl (pe_gc0 c__law_digit hr (by decide) (fun z => nomatch z) (by rfl) (pa_cons (pv 0) (a_cons (q_bin (o_add rfl) (pe_op op_addU (q_var (pv 3)) q_int)) a_nil)))) a_nil))) a_nil)))))))))))))) (ss_cons (s_for (ps_for (passes_of rfl) rfl (i_seq rfl (q_var (pv 10))) (g_name (pg_name (i := 14) scLawBoxesRight.nd rfl (by first | exact .inl rfl | exact .inr rfl))) (ss_cons (s_set (ps_set (i := 15) scLawBoxesRight.nd rfl (by first | exact .inl rfl | exact .inr rfl) (q_call (xw0 (xf := xf)) (pe_gc0 c__law_due hr (by decide) (fun z => nomatch z) (by rfl) (a_cons (q_var (pv 1)) (a_cons (q_var (pv 14)) a_nil)))))) (ss_one (s_if (t_bin (o_ne rfl) (pt_cmpR (op_neU hr.units) (q_b (n_repr rfl) (pe_callB (XV.call_reprD (hgd rfl) hr.units) (by rfl) m_repr PyProof.Rows.boot_repr (a_cons (q_told (is := [1, 14]) rfl rfl h__law_told.ok (pe_told (k := 6) h__law_told.T scLawTold rfl (.inl rfl) (h__law_told.gv _ _ rfl rfl) (by rfl) L_me rfl (hr.mono (by decide)) (LamX.lamS_by (by kernel_rfl)) rfl (fun _ _ _ _ _ => rfl) (fun A outer s H E f c' hr => pe_body fun H0 Hd0 Ed xw => (q_call xw (pe_gc c_check_boxes hr (by decide) (fun z => nomatch z) (by rfl) (takes_of rfl rfl rfl rfl) (a_cons (q_var (pv 1)) (a_cons (q_var (pv 14)) a_nil))))))) a_nil))) (q_b (n_repr rfl) (pe_callB (XV.call_reprD (hgd rfl) hr.units) (by rfl) m_repr PyProof.Rows.boot_repr (a_cons (q_if (t_val (q_isi rfl (fun _ _ _ _ h => k_list h) (pe_callB call_isi (by rfl) m_isinstance PyProof.Rows.boot_isinstance (pa_cons (q_var (pv 15)) (pa_cons (pe_bltn (by rfl) m_list PyProof.Rows.boot_list rfl) pa_nil))))) (q_tup (a_cons q_str (a_cons (q_ixV rfl (pe_ix ix_seq (pv 15) q_int (fun _ _ => rfl))) a_nil))) (q_tup (a_cons q_str (a_cons (q_var (pv 15)) a_nil)))) a_nil))) (nomark _))) (ss_one (s_ret q_bl)) ss_nil))))) (ss_one (s_ret q_bl)))))))))))), ?_⟩
  obtain ⟨n, t, rfl, ok, hm, hn, rfl, q⟩ := hp
  have h64 : t.rows.length ≤ 400 := ok.rl
  have lr : (t.rows.map Row.enc).length = t.rows.length := List.length_map _
  have bl := boxes_length (t := t)
  have pk := peak_le (t := t)
  (conv => whnf)
  refine ⟨t, ok, rfl, ?_⟩
  (conv => whnf)
  refine .inl ⟨t, ok, rfl, ?_⟩
  (conv => whnf)
  refine ⟨(gd_boxes ok).shOk, ?_⟩
  (conv => whnf)
  refine ⟨(gd_boxes ok).shOk, ?_⟩
  (conv => whnf)
  refine cnd_f (shw_nn rfl) ?_
  (conv => whnf)
  refine ⟨t.boxes.map toI, natD_map _, by rw [List.length_map]; omega, ?_⟩
  rw [boxes_card]
  refine ⟨t, ok, rfl, ?_⟩
  (conv => whnf)
  refine ⟨_, natD_map _, by rw [List.length_map, loads_length]; omega, fun m h1 h2 => ?_⟩
  rw [max_is loads_ne h1 h2]
  (conv => whnf)
  refine cnd_f (by show (!decide ((t.peak : Int) = (t.peak : Nat))) = false; rw [decide_eq_true rfl]; rfl) ?_
  (conv => whnf)
  refine ⟨by rw [List.length_map, bl, sizeLine_eq]; simp only [List.length_cons, List.length_nil]; omega, ?_⟩
  (conv => whnf)
  refine ⟨t.boxes.map toI ++ [-1], by rw [List.map_append, ← natD_map]; rfl, by simp, fun m h1 h2 => ?_⟩
  rw [max_boxes h1 h2]
  (conv => whnf)
  refine ⟨t.boxes.map toI, natD_map _, by rw [List.length_map]; omega, ?_⟩
  rw [boxes_card]
  (conv => whnf)
  refine cnd_f (by rw [decide_eq_true rfl]; rfl) ?_
  unfold sNext
  dsimp only
  -- drawn, at
  refine seq_x (fun ρ => ∃ (bs : List Nat) (n1 r : Nat), bs.length = t.rows.length ∧ n1 ≤ n + 500 ∧ r ≤ t.rows.length ∧
    ρ = [.bo (.st n1), .da t.enc, .da (.tuple (t.boxes.map natD)), .da (.int ((t.rows.map Row.enc).length : Nat)), .da (.tuple (bs.map natD)), .da (natD r), .un, .un, .un, .un, .un, .un, .un, .un, .un, .un]) (fun N hN => ?_) ?_
  · (conv => whnf)
    refine ⟨n, t, 400, rfl, ok, rfl, by omega, by omega, by omega, fun bs n1 b1 b2 b3 b4 => ?_⟩
    (conv => whnf)
    refine ⟨n1, _, rfl, rfl, by omega, by rw [lr]; omega, by rw [lr]; omega, fun r r0 r1 => ?_⟩
    rw [lr] at r1
    obtain ⟨r, rfl⟩ := int_nat r0
    exact hN _ ⟨bs, n1 + 4, r, b1, by omega, by omega, rfl⟩
  rintro ρ ⟨bs, n1, r, b1, hn1, hr, rfl⟩
  -- things
  refine seq_x (fun ρ => ∃ th : List D, th.length = 9 ∧
    ρ = [.bo (.st n1), .da t.enc, .da (.tuple (t.boxes.map natD)), .da (.int ((t.rows.map Row.enc).length : Nat)), .da (.tuple (bs.map natD)), .da (natD r), .ow (.l th), .un, .un, .un, .un, .un, .un, .un, .un, .un]) (fun N hN => ?_) ?_
  · (conv => whnf)
    refine ⟨by rw [List.length_map, bl, sizeLine_eq]; simp only [List.length_cons, List.length_nil]; omega, ?_⟩
    (conv => whnf)
    refine ⟨⟨by omega, by rw [lr]; omega, by simp⟩, ?_⟩
    (conv => whnf)
    refine ⟨.of_le (by omega) (by rw [lr]; omega) (by omega) (by omega), ?_⟩
    (conv => whnf)
    refine cnd_t (szle (by rw [List.length_map, List.length_map, bl]; omega)) ?_
    rw [List.map_map]
    refine lcGo_map1 (ρ := [_, _, _, _, _, _, _, _, _, _, _, _, _, _, _, _]) (fun b => .int (399 - (b : Nat))) _ (fun b hb acc W hW => ?_) ?_
    · (conv => whnf)
      exact hW
    (conv => whnf)
    exact hN _ ⟨_, rfl, rfl⟩
  rintro ρ ⟨th, ht, rfl⟩
  -- the first odd ones
  refine seq_x (fun ρ => ∃ (th : List D) (a : Sl), th.length ≤ 20 ∧
    ρ = [.bo (.st n1), .da t.enc, .da (.tuple (t.boxes.map natD)), .da (.int ((t.rows.map Row.enc).length : Nat)), .da (.tuple (bs.map natD)), .da (natD r), .ow (.l th), .un, a, .un, .un, .un, .un, .un, .un, .un]) (fun N hN => ?_) ?_
  · refine for_x (fun its ρ => ∃ ds : List D, ds.length = 7 ∧ its = ds.map Sl.da ∧ ρ = [.bo (.st n1), .da t.enc, .da (.tuple (t.boxes.map natD)), .da (.int ((t.rows.map Row.enc).length : Nat)), .da (.tuple (bs.map natD)), .da (natD r), .ow (.l th), .un, .un, .un, .un, .un, .un, .un, .un, .un]) (fun N hN => ?_) ?_
    · (conv => whnf)
      refine cnd_of (fun c => ?_) fun c => ?_
      · have c := of_decide_eq_true c
        rw [lr] at c
        obtain ⟨d1, e1, _⟩ := atD_some (xs := t.boxes.map natD) (j := (r : Int) - 1) (by rw [List.length_map, bl]; omega) (by rw [List.length_map, bl]; omega)
        obtain ⟨d2, e2, _⟩ := atD_some (xs := bs.map natD) (j := (r : Int) - 1) (by rw [List.length_map, b1]; omega) (by rw [List.length_map, b1]; omega)
        (conv => whnf)
        refine someQ_of e1 ?_
        (conv => whnf)
        refine cnd_t (by rw [lr]; exact decide_eq_true c) ?_
        (conv => whnf)
        refine someQ_of e2 ?_
        (conv => whnf)
        exact hN _ _ ⟨[.int 400, .int (-1), .none, .bool true, .str "0", d1, d2], rfl, rfl, rfl⟩
      · (conv => whnf)
        refine cnd_f c ?_
        (conv => whnf)
        exact hN _ _ ⟨[.int 400, .int (-1), .none, .bool true, .str "0", .int 0, .int 0], rfl, rfl, rfl⟩
    rintro its ρ ⟨ds, hd, rfl, rfl⟩
    refine forGo_ind (fun rest ρ => ∃ (th : List D) (a : Sl), th.length + rest.length ≤ 20 ∧
      ρ = [.bo (.st n1), .da t.enc, .da (.tuple (t.boxes.map natD)), .da (.int ((t.rows.map Row.enc).length : Nat)), .da (.tuple (bs.map natD)), .da (natD r), .ow (.l th), .un, a, .un, .un, .un, .un, .un, .un, .un]) ?_ ?_ ds _ ⟨th, _, by omega, rfl⟩
    · rintro x rest ρ W hW ⟨th, a, hl, rfl⟩
      rw [List.length_cons] at hl
      have cl : ∀ (lo hi : Option Int), (DL.cutD (t.boxes.map natD) lo hi).length ≤ 400 := fun lo hi => by
        unfold DL.cutD
        rw [List.length_take, List.length_drop, List.length_map, bl]
        omega
      have c1 := cl none (some (r : Nat))
      have c2 := cl (some ((r : Nat) + 1)) none
      (conv => whnf)
      refine ⟨by rw [sizeLine_eq]; simp only [List.length_cons, List.length_nil]; omega, ?_⟩
      (conv => whnf)
      refine ⟨by rw [sizeLine_eq, List.length_append]; simp only [List.length_cons, List.length_nil]; omega, ?_⟩
      (conv => whnf)
      refine ⟨by rw [sizeLine_eq]; omega, ?_⟩
      exact hW _ ⟨_, _, by rw [List.length_append, List.length_singleton]; omega, rfl⟩
    · rintro ρ ⟨th, a, hl, rfl⟩
      exact hN _ ⟨th, a, by rw [List.length_nil] at hl; omega, rfl⟩
  rintro ρ ⟨th, a8, hl, rfl⟩
  -- paper
  refine seq_x (fun ρ => ∃ mo : Nat, mo ≤ t.rows.length ∧ loadN t.lives mo = t.peak ∧
    ρ = [.bo (.st n1), .da t.enc, .da (.tuple (t.boxes.map natD)), .da (.int ((t.rows.map Row.enc).length : Nat)), .da (.tuple (bs.map natD)), .da (natD r), .ow (.l th), .un, a8, .da (.tuple [.tuple (t.boxes.map natD), natD mo]), .un, .un, .un, .un, .un, .un]) (fun N hN => ?_) ?_
  · (conv => whnf)
    refine .inl ⟨t, ok, rfl, fun mo h1 h2 => ?_⟩
    exact hN _ ⟨mo, h1, h2, rfl⟩
  rintro ρ ⟨mo, hmo, hpk, rfl⟩
  have dp := due_paper ok hmo hpk
  refine seq_x (fun ρ => ρ = [.bo (.st n1), .da t.enc, .da (.tuple (t.boxes.map natD)), .da (.int ((t.rows.map Row.enc).length : Nat)), .da (.tuple (bs.map natD)), .da (natD r), .ow (.l th), .un, a8, .da (.tuple [.tuple (t.boxes.map natD), natD mo]), .un, .un, .un, .un, .un, .un]) (fun N hN => ?_) ?_
  · (conv => whnf)
    refine ⟨t, _, ok, rfl, ?_⟩
    rw [dp]
    (conv => whnf)
    refine ⟨(gd_peak ok).shOk, ?_⟩
    (conv => whnf)
    refine ⟨t, ok, rfl, ?_⟩
    (conv => whnf)
    refine ⟨_, natD_map _, by rw [List.length_map, loads_length]; omega, fun m h1 h2 => ?_⟩
    rw [max_is loads_ne h1 h2]
    (conv => whnf)
    refine ⟨(gd_peak ok).shOk, ?_⟩
    (conv => whnf)
    refine cnd_f (shw_nn rfl) ?_
    (conv => whnf)
    refine .inl ⟨t, _, ok, rfl, ?_⟩
    rw [dp]
    (conv => whnf)
    refine ⟨(gd_peak ok).shOk, ?_⟩
    (conv => whnf)
    refine ⟨t, ok, rfl, ?_⟩
    (conv => whnf)
    refine ⟨_, natD_map _, by rw [List.length_map, loads_length]; omega, fun m h1 h2 => ?_⟩
    rw [max_is loads_ne h1 h2]
    (conv => whnf)
    refine ⟨(gd_peak ok).shOk, ?_⟩
    (conv => whnf)
    refine cnd_f (shw_nn rfl) ?_
    exact hN _ rfl
  rintro ρ rfl
  -- papers
  refine seq_x (fun ρ => ∃ ps : List D, ps.length = 11 ∧ ρ = [.bo (.st n1), .da t.enc, .da (.tuple (t.boxes.map natD)), .da (.int ((t.rows.map Row.enc).length : Nat)), .da (.tuple (bs.map natD)), .da (natD r), .ow (.l th), .un, a8, .da (.tuple [.tuple (t.boxes.map natD), natD mo]), .da (.list ps), .un, .un, .un, .un, .un]) (fun N hN => ?_) ?_
  · (conv => whnf)
    refine ⟨by rw [sizeLine_eq]; simp, ?_⟩
    (conv => whnf)
    exact hN _ ⟨_, rfl, rfl⟩
  rintro ρ ⟨ps, hp, rfl⟩
  -- each of things
  refine seq_x (fun ρ => ∃ (ps : List D) (n2 : Nat) (b c d : Sl), ps.length ≤ 60 ∧ n2 ≤ n + 600 ∧
    ρ = [.bo (.st n2), .da t.enc, .da (.tuple (t.boxes.map natD)), .da (.int ((t.rows.map Row.enc).length : Nat)), .da (.tuple (bs.map natD)), .da (natD r), .da (.list th), .un, a8, .da (.tuple [.tuple (t.boxes.map natD), natD mo]), .da (.list ps), b, c, d, .un, .un]) (fun N hN => ?_) ?_
  · (conv => whnf)
    refine forGo_ind (fun rest ρ => ∃ (ps : List D) (n2 : Nat) (b c d : Sl), ps.length + 2 * rest.length ≤ 60 ∧ n2 + 4 * rest.length ≤ n + 600 ∧
      ρ = [.bo (.st n2), .da t.enc, .da (.tuple (t.boxes.map natD)), .da (.int ((t.rows.map Row.enc).length : Nat)), .da (.tuple (bs.map natD)), .da (natD r), .da (.list th), .un, a8, .da (.tuple [.tuple (t.boxes.map natD), natD mo]), .da (.list ps), b, c, d, .un, .un]) ?_ ?_ th _ ⟨ps, n1, _, _, _, by omega, by omega, rfl⟩
    · rintro x rest ρ W hW ⟨ps, n2, b, c, d, hl1, hl2, rfl⟩
      rw [List.length_cons] at hl1 hl2
      have wsm := wrongB_small ok (d := x)
      (conv => whnf)
      refine ⟨t, x, ok, rfl, ?_⟩
      (conv => whnf)
      refine .inl ⟨t, x, ok, rfl, ?_⟩
      generalize t.wrongB x = wr at wsm
      have fin : ∀ (r2 : Int) (s12 s13 : Sl), W [.bo (.st (n2 + 4)), .da t.enc, .da (.tuple (t.boxes.map natD)), .da (.int ((t.rows.map Row.enc).length : Nat)), .da (.tuple (bs.map natD)), .da (natD r), .da (.list th), .un, a8, .da (.tuple [.tuple (t.boxes.map natD), natD mo]),
          .da (.list (ps ++ [.tuple [x, natD mo], .tuple [x, .int r2]])), .da x, s12, s13, .un, .un] := fun r2 s12 s13 => hW _ ⟨_, _, _, _, _, by simp only [List.length_append, List.length_cons, List.length_nil]; omega, by omega, rfl⟩
      cases wr with
      | nil =>
        have g : Gd 1 200 (.tuple [.str "right", .none]) := (gd_two ((gd_str "right").mono (Nat.le_refl _) (by decide +kernel : 10 * ("right" : Str).length + 2 ≤ 60)) (gd_none.mono (Nat.le_refl _) (by decide))).mono (by decide) (by decide)
        (conv => whnf)
        refine ⟨g.shOk, ?_⟩
        (conv => whnf)
        refine ⟨rfl, rfl, ?_⟩
        (conv => whnf)
        refine ⟨g.shOk, ?_⟩
        (conv => whnf)
        refine cnd_f (shw_nn rfl) ?_
        (conv => whnf)
        refine ⟨n2, _, rfl, rfl, by omega, by rw [lr]; omega, by rw [lr]; omega, fun r2 _ _ => ?_⟩
        (conv => whnf)
        refine ⟨by rw [sizeLine_eq]; simp only [List.length_cons, List.length_nil]; omega, ?_⟩
        exact fin r2 _ _
      | cons p wr =>
        have g : Gd 2 300 (.tuple [.str "map", p]) := (gd_two ((gd_str "map").mono (Nat.zero_le 1) (by decide +kernel : 10 * ("map" : Str).length + 2 ≤ 100)) (wsm p (by simp))).mono (by decide) (by decide)
        have g2 := gd_list (n := 1) (L := 100) (ds := p :: wr) fun y hy => wsm y hy
        refine ⟨_, tx_kindsT_BadMap xa _, ?_⟩
        (conv => whnf)
        refine ⟨g.shOk, ?_⟩
        (conv => whnf)
        refine ⟨g2.shaped, rfl, ?_⟩
        (conv => whnf)
        refine ⟨g.shOk, ?_⟩
        (conv => whnf)
        refine cnd_f (shw_nn rfl) ?_
        (conv => whnf)
        refine ⟨n2, _, rfl, rfl, by omega, by rw [lr]; omega, by rw [lr]; omega, fun r2 _ _ => ?_⟩
        (conv => whnf)
        refine ⟨by rw [sizeLine_eq]; simp only [List.length_cons, List.length_nil]; omega, ?_⟩
        exact fin r2 _ _
    · rintro ρ ⟨ps, n2, b, c, d, hl1, hl2, rfl⟩
      exact hN _ ⟨ps, n2, b, c, d, by omega, by omega, rfl⟩
  rintro ρ ⟨ps, n2, b, c, d, hl1, hl2, rfl⟩
  (conv => whnf)
  refine forGo_ind (fun rest ρ => ∃ (e f : Sl), ρ = [.bo (.st n2), .da t.enc, .da (.tuple (t.boxes.map natD)), .da (.int ((t.rows.map Row.enc).length : Nat)), .da (.tuple (bs.map natD)), .da (natD r), .da (.list th), .un, a8, .da (.tuple [.tuple (t.boxes.map natD), natD mo]), .da (.list ps), b, c, d, e, f]) ?_ ?_ ps _ ⟨_, _, rfl⟩
  · rintro x rest ρ W hW ⟨e, f, rfl⟩
    have du := due_small ok x
    (conv => whnf)
    refine ⟨t, x, ok, rfl, ?_⟩
    generalize hdu : t.due x = u at du
    cases u with
    | many m =>
      have g : Gd 1 200 (.tuple [.str "right", natD m]) := (gd_two ((gd_str "right").mono (Nat.le_refl _) (by decide +kernel : 10 * ("right" : Str).length + 2 ≤ 60)) ((gd_nat (k := 9) du).mono (Nat.le_refl _) (by decide))).mono (by decide) (by decide)
      (conv => whnf)
      refine .inl ⟨t, x, ok, rfl, ?_⟩
      rw [hdu]
      (conv => whnf)
      refine ⟨g.shOk, ?_⟩
      (conv => whnf)
      refine ⟨g.shOk, ?_⟩
      (conv => whnf)
      refine cnd_f (shw_nn rfl) ?_
      exact hW _ ⟨_, _, rfl⟩
    | bad p =>
      have g : Gd 2 300 (.tuple [.str "paper", p]) := (gd_two ((gd_str "paper").mono (Nat.zero_le 1) (by decide +kernel : 10 * ("paper" : Str).length + 2 ≤ 100)) (du.mono (Nat.zero_le 1) (Nat.le_refl 100))).mono (by decide) (by decide)
      (conv => whnf)
      refine .inl ⟨t, x, ok, rfl, ?_⟩
      rw [hdu]
      refine ⟨_, tx_kindsT_BadPaper xa _, ?_⟩
      (conv => whnf)
      refine ⟨g.shOk, ?_⟩
      (conv => whnf)
      refine ⟨g.shOk, ?_⟩
      (conv => whnf)
      refine cnd_f (shw_nn rfl) ?_
      exact hW _ ⟨_, _, rfl⟩
  · rintro ρ ⟨e, f, rfl⟩
    exact q _ (by omega)
end
end K81

-- DL21
set_option autoImplicit false
namespace DL
open PySem PySem.Spec PyProof.Rows L2
/-! ### the law itself: its script is a raw list -/
def spLawT (K : PySem.W.Frag) (T : List (Addr × Str)) : Sp := fun vs H Q _ => ∃ (a : Addr) (ns : List Int), vs = [.ref a] ∧ SqL K H a (ns.map V.int) ∧ ns.length ≤ 63 ∧ LamX.Tabs T H ∧ ∀ H', Q (.bl true) H'
section
variable {P : Program} {w : World} {K : PySem.W.Frag} {mg : Str → Option Value} {base : Heap} {g : Bool} {k : Nat} {f : Addr} {fd : FuncData} {N : List Str} {T : List (Addr × Str)} {x qual : Str} {st : Stmt}
theorem _root_.L2.Fun.okLaw (F : Fun K x qual st f fd) (S : FnScope N ["script"] (defScope st))
    (hbody : ∀ (cdv : Value) (A : Around) (outer : List Env) (s : Shared) (H : Hp) (E : XK) (a : Addr) (ns : List Int), fd.code = cdv → Room k (A.deeper (envOfC qual (defScope st) s.heap.objs.size f cdv)) → (g = true → A.guards = some []) → SqL K H a (ns.map V.int) → ns.length ≤ 63 →
      ∃ t, PSs (cxOf (L2.CX P w) P w K mg base N qual (defScope st) f cdv A outer s H E) (defBody st) (LS ⟨K, H, [], fun _ => none, T⟩ t) ∧
        t { nx := fun _ => False, rt := fun s _ => s.toD = some (.bool true) } (.va (.ref a) :: List.replicate (N.length - 1) .un)) :
    FnG P w K mg base (L2.CX P w) g (k + 1) f fd ["script"] (spLawT K T) := by
  refine F.okG S (fun vs H Q E ⟨a, ns, ev, _⟩ => by rw [ev]; rfl) fun cdv A outer s H vs Q E hcd hr hgd ⟨a, ns, ev, sq, hn, tb, hq⟩ => ?_
  subst ev
  obtain ⟨t, ht, q⟩ := hbody cdv A outer s H E a ns hcd hr hgd sq hn
  refine ⟨_, ht, fun _ => none, _, [], [], _, ⟨fun a o _ _ e => e, fun a o t e => ⟨o, t, e⟩, Sub.refl _, fun _ _ _ _ => rfl, fun _ _ _ e => by (cases e), tb, [], [], rfl, ?_, fun a => by simp, fun a ha => by simp at ha⟩, ⟨fun ρ σ Hd' H' (q : False) E1 => q.elim, fun _ _ _ _ q _ => False.elim q, fun _ _ _ _ q _ => False.elim q, fun s ρ v σ Hd' H' (q : s.toD = some (.bool true)) E1 => ?_⟩, q⟩
  · unfold L2.start
    show Ls _ _ _ (([V.ref a].map some) ++ List.replicate (N.length - 1) none) ([.va (.ref a)] ++ List.replicate (N.length - 1) .un) []
    exact (ls_args (xs := []) (C := ⟨K, H, [], fun _ => none, T⟩) (K := K) rfl (vs := [.ref a]) (ss := [.va (.ref a)]) ⟨rfl, trivial⟩).append (ls_un _)
  · obtain ⟨Hd2, _, E2⟩ := E1.fz q
    have z := E2.top
    cases z
    exact hq _
end
section
variable {X : Cx} {C : DC} {e : Expr} {n : Int}
theorem scr_ints (ns : List Int) (n : Nat) : ∃ xs : List Int, DL.cutD (ns.map PyData.int) none (some ((n : Nat) : Int)) ++ [PyData.int ns.sum] = xs.map PyData.int ∧ xs.length ≤ n + 1 := by
  refine ⟨(ns.take (min n ns.length)) ++ [ns.sum], ?_, ?_⟩
  · unfold DL.cutD
    rw [HT.sIx_none, HT.sIx_nat, List.map_append, List.map_take, List.length_map, Nat.sub_zero, List.drop_zero]
    rfl
  · rw [List.length_append, List.length_take, List.length_singleton]
    omega
/-- script[:n] + [sum(script)] -/
def dScr (a : Addr) (xs : List Int) : TD := fun ρ Q => match ρ with
  | .va v :: _ => v = .ref a ∧ Q (.ow (.l (xs.map PyData.int))) ρ
  | _ => False
theorem En.subF {C : DC} {Hd H : Hp} {σ : L2.St} {ρ : Rho} {vs : List V} {ss : List Sl} (E : En C Hd H σ ρ vs ss) (hB : C.B = []) : Sub C.F H := fun a o t e => E.keep a o t (by rw [hB]; simp) e
theorem q_scr {a : Addr} {ns : List Int} (hB : C.B = []) (hs : SqL C.K C.F a (ns.map V.int)) (hn : ns.length ≤ 63) {xs : List Int} (hx : DL.cutD (ns.map PyData.int) none (some n) ++ [PyData.int ns.sum] = xs.map PyData.int)
    (h : PE X e (tOp rCat (tSl (rSlL C.K) (tVar 0) tNoPart (tPart (tC (.int n)))) (tLst (tCons (tCB (rSum C.K) (tCons (tVar 0) tNil)) tNil)))) : PE X e (LE C (dScr a xs)) := imp_e h fun σ H Q ⟨Hd, ρ, vs, ss, Qd, E0, k, q⟩ => by
  unfold dScr at q
  split at q
  · rename_i v ρ1
    obtain ⟨rfl, q⟩ := q
    have ev : σ[0]? = some (some (.ref a)) := by
      obtain ⟨f, g, h2, h3, h4, h5⟩ := E0.sep
      obtain ⟨y, f1, g1, g2, e1, e2, ⟨_, e3⟩, _⟩ := h3.at (i := 0) (s := .va (.ref a)) rfl
      rw [e2, e3]
    have hS := (E0.subF hB).seqL hs
    refine ⟨_, ev, n, rfl, a, _, rfl, hS, fun p0 hp0 => ?_⟩
    have s0 : Sub H (upd H p0 (.lst (cutV (ns.map V.int) none (some n)))) := sub_upd hp0
    refine ⟨_, ev, a, ns, rfl, s0.seqL hS, (by show 1 ≤ sizeLine; decide), fun p1 hp1 => ?_⟩
    have s1 : Sub (upd H p0 (.lst (cutV (ns.map V.int) none (some n)))) (upd (upd H p0 (.lst (cutV (ns.map V.int) none (some n)))) p1 (.lst [.int ns.sum])) := sub_upd hp1
    have hcl : (cutV (ns.map V.int) none (some n)).length ≤ 63 := Nat.le_trans (cutV_length _ _ _) (by rw [List.length_map]; exact hn)
    refine ⟨p0, p1, _, _, rfl, rfl, s1 _ _ rfl upd_same, upd_same, (by rw [sizeLine_eq]; show _ + 1 ≤ _; omega), fun c hc => ?_⟩
    have da : ∀ Hx, DqAll C.K Hx (cutV (ns.map V.int) none (some n) ++ [.int ns.sum]) (xs.map PyData.int) := fun Hx => hx ▸ ((DqAll.ints ns).cut none (some n)).append (.cons (.int _) .nil)
    have w0 : Sub Hd H := E0.sub
    have tb : ∀ {H1 : Hp} {p : Addr} {o : HO}, LamX.Tabs C.T H1 → H1 p = none → LamX.Tabs C.T (upd H1 p o) := fun {H1 p o} t hp => tabs_upd t fun x => by
      by_cases hx : x = p
      · subst hx; exact .inr fun u e => by rw [hp] at e; cases e
      · exact .inl (upd_ne hx)
    have E1 := E0.grow (Sub.refl _) (s0.trans s1) (w0.trans (s0.trans s1)) (fun _ _ _ _ => rfl) (tb (tb E0.tabs hp0) hp1)
    exact k _ _ _ _ _ q (E1.newO hc ⟨c, _, rfl, rfl, upd_same, da _⟩)
  · exact q.elim
end
end DL

-- TW
set_option autoImplicit false
namespace TP
open PySem PySem.Spec PyProof.Rows L2 DL
/-! ### the wide tapes -/
def wideR (k : Nat) : List Row := (List.range k).map fun j => Row.num (j : Nat) 1
def wideT (k : Nat) (os : List Nat) : Tape := ⟨1, wideR k, os⟩
theorem wide_enc (k : Nat) : (wideR k).map Row.enc = (List.range k).map fun j => .tuple [.str "num", .tuple [.int (j : Nat), .int 1]] := by
  unfold wideR
  rw [List.map_map]
  rfl
theorem wide_len (k : Nat) : (wideR k).length = k := by simp [wideR]
theorem rows_num : ∀ (rs : List Row) (v : Nat), (∀ r ∈ rs, ∃ a b, r = .num a b ∧ (-(10 ^ 60 : Int) < a ∧ a < 10 ^ 60) ∧ (0 < b ∧ b < 10 ^ 60) ∧ Nat.gcd a.natAbs b.natAbs = 1) → RowsOk v rs
  | [], _, _ => trivial
  | r :: rs, v, h => by
    obtain ⟨a, b, e, h1⟩ := h r (by simp)
    subst e
    exact ⟨h1, rows_num rs (v + 1) fun x hx => h x (by simp [hx])⟩
theorem wide_ok {k : Nat} {os : List Nat} (hk : k ≤ 400) (h1 : 1 ≤ os.length) (h2 : os.length ≤ 64) (h3 : ∀ o ∈ os, o < 1 + k) : (wideT k os).Ok := by
  refine ⟨Nat.le_refl _, (by decide : 1 ≤ 64), by show (wideR k).length ≤ 400; rw [wide_len]; exact hk, rows_num _ _ fun r hr => ?_, h1, h2, fun o ho => by show o < 1 + (wideR k).length; rw [wide_len]; exact h3 o ho⟩
  obtain ⟨j, hj, rfl⟩ := List.mem_map.mp hr
  have := List.mem_range.mp hj
  refine ⟨(j : Nat), 1, rfl, ⟨?_, ?_⟩, ⟨by decide, by decide⟩, ?_⟩
  · have : (0 : Int) ≤ (j : Nat) := Int.natCast_nonneg _
    omega
  · omega
  · simp
theorem wide_ok1 : (wideT 400 [1]).Ok := wide_ok (by decide) (by decide) (by decide) (by decide)
theorem wide_ok2 : (wideT 400 [400]).Ok := wide_ok (by decide) (by decide) (by decide) (by decide)
theorem wide_ok3 : (wideT 64 (List.range' 1 64)).Ok := wide_ok (by decide) (by decide +kernel) (by decide +kernel) (by decide +kernel)
theorem wide_peak1 : (wideT 400 [1]).peak = 2 := by decide +kernel
theorem wide_peak2 : (wideT 64 (List.range' 1 64)).peak = 64 := by decide +kernel
theorem wide_lasts : (wideT 400 [400]).lasts = (List.range 400).map (· + 1) := by decide +kernel
theorem grd_zero {lv : List (Nat × Nat)} {m : Nat} (h : ∀ n l, l < n → n < m → lat lv n l = false) : ∀ n, n ≤ m → grd lv n = List.replicate n 0
  | 0, _ => rfl
  | n + 1, hn => by
    have e : takenAt lv (grd lv n) n = [] := by
      unfold takenAt
      rw [List.filter_eq_nil_iff.mpr fun l hl => by rw [h n l (List.mem_range.mp hl) (by omega)]; decide]
      rfl
    rw [grd, e, grd_zero h n (by omega), List.replicate_succ']
    rfl
theorem wide_boxes : (wideT 400 [400]).boxes = List.replicate 400 0 := by
  have z : ∀ n, n < 400 → (wideT 400 [400]).lives.getD n (0, 0) = (n + 1, n + 1) := fun n hn => by
    rw [List.getD_eq_getElem?_getD, Tape.lives, pairs_get, wide_lasts, List.getElem?_map, List.getElem?_range hn]
    simp
  have l : (wideT 400 [400]).rows.length = 400 := wide_len 400
  unfold Tape.boxes
  rw [l]
  refine grd_zero (m := 400) (fun n l h1 h2 => ?_) 400 (Nat.le_refl _)
  unfold lat
  rw [z n h2, z l (by omega)]
  exact decide_eq_false (by show ¬ n + 1 ≤ l + 1; omega)
theorem flat1 {x : D} : ∀ n : Nat, (List.replicate n [x]).flatten = List.replicate n x
  | 0 => rfl
  | n + 1 => by rw [List.replicate_succ, List.replicate_succ, List.flatten_cons, flat1 n]; rfl
theorem wide_zeros {m : Int} (hm : 400 = m) : (List.replicate m.toNat [PyData.int 0]).flatten = (List.replicate 400 0).map natD := by
  subst hm
  rw [flat1, List.map_replicate]
  rfl
theorem wide_cut : DL.cutD ((wideR 400).map Row.enc) none (some 64) = (wideR 64).map Row.enc := by
  unfold DL.cutD
  rw [HT.sIx_none, show (64 : Int) = ((64 : Nat) : Int) from rfl, HT.sIx_nat, List.length_map, wide_len, wide_enc, wide_enc, Nat.sub_zero, List.drop_zero, ← List.map_take, List.take_range]
  rfl
/-- wide = (1, tuple([("num", (at, 1)) for at in range(400)]), (1,)) -/
theorem wide_step {D : EndsD} {a b c d e : Sl} {m : Int} {R : List DL.D} (hm : 400 = m) (hR : R = (wideR 400).map Row.enc) (h : D.nx [a, b, c, d, e, .da (.tuple [.int 1, .tuple R, .tuple [.int 1]]), .un, .un]) :
    sAsg (dTup (dCons (dC (PyData.int 1)) (dCons (dB (da1 tupleD) (dCons (dLc (dIt rng1S (dCons (dC (PyData.int m)) dNil)) (dgName 6) dYes
   (dTup (dCons (dC (PyData.str "num")) (dCons (dTup (dCons (dVar 6) (dCons (dC (PyData.int 1)) dNil))) dNil))) [6]) dNil)) (dCons (dTup (dCons (dC (PyData.int 1)) dNil)) dNil)))) (dgName 5) D [a, b, c, d, e, .un, .un, .un] := by
  (conv => whnf)
  refine cnd_t (by subst hm; decide) ?_
  refine cnd_t (by subst hm; rw [rgS_len]; exact szle (by decide)) ?_
  refine lcGo_rng1 (ρ := [_, _, _, _, _, _, _, _]) (fun j => .tuple [.str "num", .tuple [.int (j : Nat), .int 1]]) (fun j hj acc W hW => ?_) ?_
  · (conv => whnf)
    rw [show (0 : Int) + (j : Nat) = (j : Nat) by omega]
    exact hW
  rw [show (List.range m.toNat).map (fun j : Nat => PyData.tuple [.str "num", .tuple [.int (j : Nat), .int 1]]) = R by subst hm hR; exact (wide_enc 400).symm]
  exact h
/-! ### the example -/
def exT : Tape := ⟨2, [.op "mul" [0, 1], .op "mul" [2, 2], .op "add" [2, 3]], [4]⟩
theorem ex_ok : exT.Ok := by
  refine ⟨by decide, by decide, by decide, ⟨.inr ⟨by decide, 0, 1, by decide, by decide, rfl⟩, .inr ⟨by decide, 2, 2, by decide, by decide, rfl⟩, .inr ⟨by decide, 2, 3, by decide, by decide, rfl⟩, trivial⟩, by decide, by decide, by decide⟩
theorem ex_loads : exT.loads = [0, 1, 2, 1] := by decide +kernel
theorem ex_boxes : exT.boxes = [0, 1, 0] := by decide +kernel
def noT : Tape := ⟨1, [], [0]⟩
theorem no_ok : noT.Ok := ⟨by decide, by decide, by decide, trivial, by decide, by decide, by decide⟩
theorem no_peak : noT.peak = 0 := by decide +kernel
end TP

-- K81L
set_option autoImplicit false
namespace K81
open PySem PySem.Spec PyProof.Rows L2 DL TP
section
variable {P : Program} {w : World} {K : PySem.W.Frag} {mg : Str → Option Value} {base : Heap} {xf : XT} {xa : Str → Addr}
abbrev sLaw : Stmt := topS 58
abbrev nLaw : List Str := ["script", "k", "cell", "state", "tape", "wide", "at", "example"]
theorem scLaw : FnScope nLaw ["script"] (defScope sLaw) := ⟨rfl, rfl, rfl, by decide +kernel, rfl, by decide +kernel, by decide +kernel⟩
theorem ok_law {f : Addr} {fd : FuncData} (F : Fun K "law" "law" sLaw f fd) (B : Blt mg) (c__law_draw : CalG P w K mg base false 1 "_law_draw" ["cell", "k"] spDraw) (c__law_tape : CalG P w K mg base false 3 "_law_tape" ["state", "inputs", "most"] (spB K xf PLawTape)) (c__law_digit : CalG P w K mg base false 2 "_law_digit" ["state", "below"] (spB K xf PLawDigit)) (c__law_refused_right : CalG P w K mg base true 9 "_law_refused_right" ["tape"] (spD K xf PLawRefusedRight)) (c__law_boxes_right : CalG P w K mg base true 9 "_law_boxes_right" ["state", "tape"] (spB K xf PLawBoxesRight)) (c__law_lives_right : CalG P w K mg base true 7 "_law_lives_right" ["state", "tape"] (spB K xf PLawLivesRight)) (c_peak_of : CalG P w K mg base false 6 "peak_of" ["tape"] (spD K xf (PPeakOf xa))) (c_first_boxes : CalG P w K mg base false 6 "first_boxes" ["tape"] (spD K xf (PFirstBoxes xa))) (c_loads_of : CalG P w K mg base false 6 "loads_of" ["tape"] (spD K xf (PLoadsOf xa))) : FnG P w K mg base (L2.CX P w) true 10 f fd ["script"] (spLawT K xf.T) := by
  have m_enumerate := B.enumerate
  have m_sum := B.sum
  have m_tuple := B.tuple
  have m_range := B.range
  refine F.okLaw (k := 9) scLaw fun cdv A outer s H E a ns hcd hr hgd hsq hns => ?_
  obtain ⟨xs, hsx, hxl⟩ := scr_ints ns 2
  refine ⟨_, (ss_cons (s_for (ps_for (passes_of rfl) rfl (i_enum rfl (pi_enumA (by rfl) m_enumerate (a_cons (q_scr rfl hsq hns hsx (pe_op op_cat (pe_slice sl_list (pv 0) po_none (po_some pe_int)) (pe_lst (pa_cons (pe_callB (cr_sum rfl) (by rfl) m_sum PyProof.Rows.boot_sum (pa_cons (pv 0) pa_nil)) pa_nil)))) a_nil))) (g_tup (n := 2) rfl rfl (g_cons (g_name (pg_name (i := 1) scLaw.nd rfl (by first | exact .inl rfl | exact .inr rfl))) (g_cons (g_name (pg_name (i := 2) scLaw.nd rfl (by first | exact .inl rfl | exact .inr rfl))) g_nil))) (ss_cons (s_set (ps_set (i := 3) scLaw.nd rfl (by first | exact .inl rfl | exact .inr rfl) (q_draw (pe_gc0 c__law_draw hr (by decide) (fun z => nomatch z) (by rfl) (a_cons (q_var (pv 2)) (a_cons (q_var (pv 1)) a_nil)))))) (ss_cons (s_set (ps_set (i := 4) scLaw.nd rfl (by first | exact .inl rfl | exact .inr rfl) (q_callB rfl (pe_gc0 c__law_tape hr (by decide) (fun z => nomatch z) (by rfl) (pa_cons (pv 3) (a_cons (q_bin (o_add rfl) (pe_op op_addU q_int (q_callB rfl (pe_gc0 c__law_digit hr (by decide) (fun z => nomatch z) (by rfl) (pa_cons (pv 3) (a_cons q_int a_nil)))))) (a_cons q_int a_nil))))))) (ss_one (s_if (t_w (w_or (t_not (t_val (q_callB rfl (pe_gc0 c__law_lives_right hr (by decide) hgd (by rfl) (pa_cons (pv 3) (a_cons (q_var (pv 4)) a_nil)))))) (w_or (t_not (t_val (q_callB rfl (pe_gc0 c__law_boxes_right hr (by decide) hgd (by rfl) (pa_cons (pv 3) (a_cons (q_var (pv 4)) a_nil)))))) (w_or1 (t_not (t_val (q_call (xw0 (xf := xf)) (pe_gc0 c__law_refused_right hr (by decide) hgd (by rfl) (a_cons (q_var (pv 4)) a_nil))))))))) (ss_one (s_ret q_bl)) ss_nil)))))) (ss_cons (s_set (ps_set (i := 5) scLaw.nd rfl (by first | exact .inl rfl | exact .inr rfl) (q_tup (a_cons q_int (a_cons (q_b (n_tuple rfl) (pe_callTy call_tuple_of (by rfl) m_tuple PyProof.Rows.boot_tuple (a_cons (q_lc (is := [6]) (js := [6]) (by decide) (pe_lc (own := [("at", 6)]) rfl scLaw.nd (i_rng1 (pi_range1 rfl m_range (a_cons q_int a_nil))) (blkOk_by (N := nLaw) (sc := defScope sLaw) (by decide +kernel)) (fun _ _ _ _ _ => (g_name (pg_name (i := 6) scLaw.nd rfl (by first | exact .inl rfl | exact .inr rfl)))) (fun _ _ _ _ _ => yes_le) (fun _ _ _ _ _ => (q_tup (a_cons q_str (a_cons (q_tup (a_cons (q_var (pv 6)) (a_cons q_int a_nil))) a_nil)))))) a_nil))) (a_cons (q_tup (a_cons q_int a_nil)) a_nil)))))) (ss_cons (s_if (t_w (w_or (t_bin (o_ne rfl) (pt_cmpR (op_neU hr.units) (q_call (xw0 (xf := xf)) (pe_gc0 c_peak_of hr (by decide) (fun z => nomatch z) (by rfl) (a_cons (q_var (pv 5)) a_nil))) q_int (nomark _))) (w_or (t_bin (o_ne rfl) (pt_cmpR (op_neU hr.units) (q_call (xw0 (xf := xf)) (pe_gc0 c_first_boxes hr (by decide) (fun z => nomatch z) (by rfl) (a_cons (q_tup (a_cons q_int (a_cons (q_ixV rfl (pe_ix ix_seq (pv 5) q_int (fun _ _ => rfl))) (a_cons (q_tup (a_cons q_int a_nil)) a_nil)))) a_nil))) (q_bin (o_mul rfl) (pe_op op_mulU (q_tup (a_cons q_int a_nil)) q_int)) (nomark _))) (w_or1 (t_bin (o_ne rfl) (pt_cmpR (op_neU hr.units) (q_call (xw0 (xf := xf)) (pe_gc0 c_peak_of hr (by decide) (fun z => nomatch z) (by rfl) (a_cons (q_tup (a_cons q_int (a_cons (q_sl rfl (q_ixV rfl (pe_ix ix_seq (pv 5) q_int (fun _ _ => rfl))) po_n (po_s q_int)) (a_cons (q_tupR2 (pe_tupRg rfl (by rfl) m_tuple (prg_2 (by rfl) m_range q_int q_int))) a_nil)))) a_nil))) q_int (nomark _))))))) (ss_one (s_ret q_bl)) ss_nil) (ss_cons (s_set (ps_set (i := 7) scLaw.nd rfl (by first | exact .inl rfl | exact .inr rfl) (q_tup (a_cons q_int (a_cons (q_tup (a_cons (q_tup (a_cons q_str (a_cons q_int (a_cons q_int a_nil)))) (a_cons (q_tup (a_cons q_str (a_cons q_int (a_cons q_int a_nil)))) (a_cons (q_tup (a_cons q_str (a_cons q_int (a_cons q_int a_nil)))) a_nil)))) (a_cons (q_tup (a_cons q_int a_nil)) a_nil)))))) (ss_one (s_ret (q_and (q_bin (o_eq rfl) (pe_cmpR (op_eqU hr.units) (q_call (xw0 (xf := xf)) (pe_gc0 c_loads_of hr (by decide) (fun z => nomatch z) (by rfl) (a_cons (q_var (pv 7)) a_nil))) (q_tup (a_cons q_int (a_cons q_int (a_cons q_int (a_cons q_int a_nil))))) (nomark _))) (q_and (q_bin (o_eq rfl) (pe_cmpR (op_eqU hr.units) (q_call (xw0 (xf := xf)) (pe_gc0 c_first_boxes hr (by decide) (fun z => nomatch z) (by rfl) (a_cons (q_var (pv 7)) a_nil))) (q_tup (a_cons q_int (a_cons q_int (a_cons q_int a_nil)))) (nomark _))) (q_one (q_bin (o_eq rfl) (pe_cmpR (op_eqU hr.units) (q_call (xw0 (xf := xf)) (pe_gc0 c_peak_of hr (by decide) (fun z => nomatch z) (by rfl) (a_cons (q_tup (a_cons q_int (a_cons (q_tup a_nil) (a_cons (q_tup (a_cons q_int a_nil)) a_nil)))) a_nil))) q_int (nomark _)))))))))))), ?_⟩
  generalize hm : (400 : Int) = m
  refine seq_x (fun ρ => ∃ (b c d e : Sl), ρ = [.va (.ref a), b, c, d, e, .un, .un, .un]) (fun N hN => ?_) ?_
  · (conv => whnf)
    refine ⟨rfl, ?_⟩
    (conv => whnf)
    refine forGo_enum (fun n rest ρ => n + rest.length ≤ 3 ∧ ∃ (b c d e : Sl), ρ = [.va (.ref a), b, c, d, e, .un, .un, .un]) ?_ ?_ xs 0 _ ⟨by omega, _, _, _, _, rfl⟩
    · rintro n x rest ρ W hW ⟨hl, b, c, d, e, rfl⟩
      rw [List.length_cons] at hl
      (conv => whnf)
      refine ⟨⟨by omega, by omega⟩, ?_⟩
      (conv => whnf)
      refine ⟨_, 3, rfl, rfl, by omega, by omega, by omega, fun r r0 r1 => ?_⟩
      obtain ⟨r, rfl⟩ := int_nat r0
      (conv => whnf)
      refine ⟨1000 * n + 4, 1 + r, 14, ?_, ?_, by omega, by omega, by omega, by omega, fun t n1 dr h1 => ?_⟩
      · rw [Int.toNat_natCast]
      · rw [natD_add]; rfl
      have rl := dr.rl
      (conv => whnf)
      refine ⟨n1, t, rfl, dr.ok, rfl, ?_⟩
      (conv => whnf)
      refine ⟨n1, t, rfl, dr.ok, by omega, by omega, rfl, fun n2 h2 => ?_⟩
      (conv => whnf)
      refine ⟨t, dr.ok, rfl, ?_⟩
      exact hW _ ⟨by omega, _, _, _, _, rfl⟩
    · rintro n ρ ⟨hl, b, c, d, e, rfl⟩
      exact hN _ ⟨_, _, _, _, rfl⟩
  rintro ρ ⟨b, c, d, e, rfl⟩
  -- the wide ones
  obtain ⟨R4, hR4⟩ : ∃ R, R = (wideR 400).map Row.enc := ⟨_, rfl⟩
  refine seq_x (fun ρ => ρ = [.va (.ref a), b, c, d, e, .da (.tuple [.int 1, .tuple R4, .tuple [.int 1]]), .un, .un]) (fun N hN => ?_) ?_
  · exact wide_step hm hR4 (hN _ rfl)
  rintro ρ rfl
  have e1 : (wideT 400 [1]).enc = .tuple [.int 1, .tuple R4, .tuple [.int 1]] := by subst hR4; rfl
  have e2 : (wideT 400 [400]).enc = .tuple [.int 1, .tuple R4, .tuple [.int m]] := by subst hR4 hm; rfl
  have p1 := wide_peak1
  refine seq_x (fun ρ => ρ = [.va (.ref a), b, c, d, e, .da (.tuple [.int 1, .tuple R4, .tuple [.int 1]]), .un, .un]) (fun N hN => ?_) ?_
  · (conv => whnf)
    refine .inl ⟨_, wide_ok1, e1 ▸ rfl, ?_⟩
    rw [p1]
    (conv => whnf)
    refine .inl ⟨_, wide_ok2, e2 ▸ rfl, ?_⟩
    rw [wide_boxes]
    have gz := gd_boxes wide_ok2
    rw [wide_boxes] at gz
    have fz := wide_zeros hm
    generalize hz : (List.replicate 400 0).map natD = zs at gz fz ⊢
    (conv => whnf)
    refine ⟨⟨by omega, by omega, by decide⟩, ?_⟩
    rw [fz]
    (conv => whnf)
    refine ⟨gz.shaped, gz.shaped, ?_⟩
    (conv => whnf)
    refine cnd_f (by rw [gz.eqv]; rfl) ?_
    (conv => whnf)
    refine ⟨by refine .of_le ?_ ?_ ?_ ?_ <;> decide, ?_⟩
    generalize hos : rgD 1 65 = os
    rw [show DL.cutD R4 none (some 64) = (wideR 64).map Row.enc by subst hR4; exact wide_cut]
    obtain ⟨R6, hR6⟩ : ∃ R, R = (wideR 64).map Row.enc := ⟨_, rfl⟩
    rw [← hR6]
    have e3 : (wideT 64 (List.range' 1 64)).enc = .tuple [.int 1, .tuple R6, .tuple os] := by subst hR6 hos; rfl
    (conv => whnf)
    refine .inl ⟨_, wide_ok3, e3 ▸ rfl, ?_⟩
    rw [wide_peak2]
    (conv => whnf)
    exact hN _ rfl
  rintro ρ rfl
  -- the example
  (conv => whnf)
  refine .inl ⟨exT, ex_ok, rfl, ?_⟩
  rw [ex_loads]
  (conv => whnf)
  refine ⟨rfl, rfl, ?_⟩
  (conv => whnf)
  refine .inl ⟨exT, ex_ok, rfl, ?_⟩
  rw [ex_boxes]
  (conv => whnf)
  refine ⟨rfl, rfl, ?_⟩
  (conv => whnf)
  refine .inl ⟨noT, no_ok, rfl, ?_⟩
  rw [no_peak]
  (conv => whnf)
  exact rfl
end
end K81

-- DLZ
set_option autoImplicit false
namespace DL
open PySem PySem.Spec PyProof.Rows L2
/-! ### the end: the law's call, where tables are and shows run (FnG) -/
/-- the state ahead of the call: tables are empty and not written, the script is a list -/
structure Beg (K : PySem.W.Frag) (h : Heap) (zs : List (Addr × Addr)) (c : Addr) (ys : List Value) (is : List V) : Prop where
  kin : K.In h
  emp : ∀ z ∈ zs, h.get? z.2 = some (PySem.W.tabObj #[])
  out : ∀ z ∈ zs, K.lookup z.2 = none
  cod : ∀ z ∈ zs, PySem.W.CodeHd h z.1 z.2
  scr : h.get? c = some { cls := .type "list", data := .seq ys.toArray }
  rel : Vals is ys
  few : is.length ≤ sizeLine
def isTb (zs : List (Addr × Addr)) (x : Addr) : Bool := zs.any fun z => z.2 == x
def lstO (ys : List Value) : Obj := { cls := .type "list", data := .seq ys.toArray }
def begH (K : PySem.W.Frag) (zs : List (Addr × Addr)) (c : Addr) (ys : List Value) (is : List V) : Hp := fun x =>
  if isTb zs x = true then some (.tbl #[]) else if x = c ∧ (K.lookup c).isNone = true then some (.frz (lstO ys) (.lst is)) else none
section
variable {P : Program} {w : World} {K : PySem.W.Frag} {h : Heap} {zs : List (Addr × Addr)} {c : Addr} {ys : List Value} {is : List V}
theorem isTb_iff {x : Addr} : isTb zs x = true ↔ ∃ z ∈ zs, z.2 = x := by
  unfold isTb
  rw [List.any_eq_true]
  exact ⟨fun ⟨z, m, q⟩ => ⟨z, m, eq_of_beq q⟩, fun ⟨z, m, q⟩ => ⟨z, m, by rw [q]; exact beq_self_eq_true x⟩⟩
theorem begH_tb {z : Addr × Addr} (m : z ∈ zs) : begH K zs c ys is z.2 = some (.tbl #[]) := if_pos (isTb_iff.mpr ⟨z, m, rfl⟩)
theorem begH_cases {x : Addr} {u : HO} (q : begH K zs c ys is x = some u) : ((∃ z ∈ zs, z.2 = x) ∧ u = .tbl #[]) ∨ (x = c ∧ K.lookup c = none ∧ u = .frz (lstO ys) (.lst is)) := by
  unfold begH at q
  split at q
  · rename_i t
    cases q
    exact .inl ⟨isTb_iff.mp t, rfl⟩
  · split at q
    · rename_i t
      cases q
      exact .inr ⟨t.1, Option.isNone_iff_eq_none.mp t.2, rfl⟩
    · cases q
namespace Beg
variable (B : Beg K h zs c ys is)
include B
theorem noTb : isTb zs c = false := by
  cases q : isTb zs c with
  | false => rfl
  | true =>
    obtain ⟨z, m, e⟩ := isTb_iff.mp q
    have a1 := B.emp z m
    rw [e, B.scr] at a1
    have a2 : (lstO ys).data = Data.fields #[] := congrArg Obj.data (Option.some.inj a1)
    cases a2
/-- objects of another kind are not told -/
theorem untold {x : Addr} {o : Obj} (e : h.get? x = some o) (n1 : ∀ us k, o.data ≠ .seq us k) (n2 : o.data ≠ .fields #[]) : begH K zs c ys is x = none := by
  cases q : begH K zs c ys is x with
  | none => rfl
  | some u =>
    rcases begH_cases q with ⟨⟨z, m, rfl⟩, _⟩ | ⟨rfl, _, _⟩
    · have t := B.emp z m
      rw [e] at t
      cases t
      exact (n2 rfl).elim
    · have t := B.scr
      rw [e] at t
      cases t
      exact (n1 _ _ rfl).elim
theorem untoldK {x : Addr} {o : Obj} (e : K.lookup x = some o) : begH K zs c ys is x = none := by
  cases q : begH K zs c ys is x with
  | none => rfl
  | some u =>
    rcases begH_cases q with ⟨⟨z, m, rfl⟩, _⟩ | ⟨rfl, t, _⟩
    · rw [B.out z m] at e; cases e
    · rw [t] at e; cases e
theorem held : HOk P w (begH K zs c ys is) h := fun x u q => by
  rcases begH_cases q with ⟨⟨z, m, rfl⟩, rfl⟩ | ⟨rfl, _, rfl⟩
  · exact B.emp z m
  · exact ⟨B.scr, B.few, ys, 0, B.rel, B.scr⟩
theorem seen : SqL K (begH K zs c ys is) c is := by
  cases q : K.lookup c with
  | some o =>
    have t := B.kin c o q
    rw [B.scr] at t
    cases t
    exact .inr ⟨_, ys.toArray, 0, q, rfl, rfl, rfl, by rw [List.size_toArray, ← B.rel.length]; exact B.few, B.rel⟩
  | none =>
    refine .inl (.inr ⟨lstO ys, ?_⟩)
    unfold begH
    rw [if_neg (by rw [B.noTb]; decide), if_pos ⟨rfl, by rw [q]; rfl⟩]
theorem nsB {x : Addr} {m : Str → Option Value} (n : h.Ns x m) : (hidT h (begH K zs c ys is)).Ns x m := by
  obtain ⟨o, es, ep, e1, e2, e3⟩ := n
  refine ⟨o, es, ep, hidT_get e1 (B.untold e1 (fun us k t => ?_) fun t => ?_), e2, e3⟩ <;> (rw [e2] at t; cases t)
theorem kinB : K.In (hidT h (begH K zs c ys is)) := fun x o e => hidT_get (B.kin x o e) (B.untoldK e)
theorem tabB {mg : Str → Option Value} (ng : h.Ns mainGlobals mg) (bm : ∃ (x : Addr) (o : Obj), mg "__builtins__" = some (.ref x) ∧ x ≠ builtinsNs ∧ h.get? x = some o ∧ o.cls = .type "module" ∧ o.dict = some builtinsNs ∧ o.data = .plain) {z : Addr × Addr} (m : z ∈ zs) :
    LamX.TabB (hidT h (begH K zs c ys is)) mg z.1 z.2 := by
  obtain ⟨og, eg, pg, g1, g2, g3⟩ := ng
  have ez := B.emp z m
  refine ⟨?_, ?_, fun t => ?_⟩
  · obtain ⟨o, us, f1, f2, f3, f4, f5, f6, f7, e1, e2, e3, e4, rest⟩ := B.cod z m
    refine ⟨o, us, f1, f2, f3, f4, f5, f6, f7, hidT_get e1 (B.untold e1 (fun vs k t => by rw [e3] at t; cases t) fun t => ?_), e2, e3, e4, rest⟩
    rw [e3] at t
    cases t
    simp at e4
  · obtain ⟨x, o, b1, b2, b3, b4, b5, b6⟩ := bm
    refine ⟨x, o, b1, b2, fun t => ?_, fun t => ?_, hidT_get b3 (B.untold b3 (fun us k t => by rw [b6] at t; cases t) fun t => by rw [b6] at t; cases t), b4, b5, b6⟩
    · rw [t, g1] at b3
      cases b3
      rw [b6] at g2
      cases g2
    · rw [t, ez] at b3
      cases b3
      cases b6
  · rw [t, ez] at g1
    cases g1
    cases g2
/-- what was there is there yet, behind the call -/
theorem old {h' : Heap} {H' : Hp} (un : Un [] [] (begH K zs c ys is) H' h h') (ok : HOk P w H' h') : OldK h h' := by
  have grown : ∀ z ∈ zs, ∃ more, h'.get? z.2 = some (PySem.W.tabObj more) := fun z m => by
    obtain ⟨more, t⟩ := un.tbls z.2 #[] (begH_tb m)
    exact ⟨_, ok z.2 _ t⟩
  have same : ∀ x o, isTb zs x = false → h.get? x = some o → h'.get? x = some o := fun x o nt e => by
    cases q : begH K zs c ys is x with
    | none => exact un.keep x o e q (fun t => List.not_mem_nil t) fun t => List.not_mem_nil t
    | some u =>
      rcases begH_cases q with ⟨t, _⟩ | ⟨rfl, _, rfl⟩
      · rw [isTb_iff.mpr t] at nt; cases nt
      · have t := un.frzs _ _ _ q
        have e2 := (ok _ _ t).1
        have e3 := B.scr
        rw [e] at e3
        cases e3
        exact e2
  constructor
  · intro x o e
    cases q : isTb zs x with
    | false => exact Or.inl (same x o q e)
    | true =>
      obtain ⟨z, m, rfl⟩ := isTb_iff.mp q
      obtain ⟨more, t⟩ := grown z m
      have ez := B.emp z m
      rw [e] at ez
      cases ez
      refine Or.inr (Or.inl ⟨((B.cod z m).tab e).isCodeTable, ?_⟩)
      exact ⟨rfl, #[], more, rfl, by rw [Array.empty_append]; exact t⟩
  · intro x o e
    cases q : isTb zs x with
    | false => exact ⟨o, same x o q e⟩
    | true =>
      obtain ⟨z, m, rfl⟩ := isTb_iff.mp q
      obtain ⟨more, t⟩ := grown z m
      exact ⟨_, t⟩
end Beg
end
section
variable {P : Program} {w : World}
/-- the call of the law -/
theorem end_call {K : PySem.W.Frag} {mg mb : Str → Option Value} {k : Nat} {f c : Addr} {zs : List (Addr × Addr)} {fd : FuncData} {x : Str} {sp : Sp} {st : Shared} {ys : List Value} {is : List V} (B : Beg K st.heap zs c ys is)
    (ng : st.heap.Ns mainGlobals mg) (nb : st.heap.Ns builtinsNs mb) (blt : ∀ n : Str, n ≠ "__name__" → mb n = bootBuiltins n) (nl : st.heap.NoLimit) (gens : st.gens = #[])
    (bm : ∃ (x : Addr) (o : Obj), mg "__builtins__" = some (.ref x) ∧ x ≠ builtinsNs ∧ st.heap.get? x = some o ∧ o.cls = .type "module" ∧ o.dict = some builtinsNs ∧ o.data = .plain) (rm : Room k callerA)
    (F : ∀ base : Heap, K.In base → base.Ns mainGlobals mg → (∀ z ∈ zs, LamX.TabB base mg z.1 z.2) → FnG P w K mg base (L2.CX P w) true k f fd [x] sp) (bind : ∀ (s : Shared) (u : Value), BindsTo s fd ⟨[u], []⟩ [(x, u)])
    (prom : ∀ H : Hp, (∀ z ∈ zs, H z.2 = some (.tbl #[])) → SqL K H c is → sp [.ref c] H (fun v _ => v = .bl true) E0) :
    codeAny (model P w) callerA (.call (.ref f) ⟨[.ref c], []⟩) (fun r st' => r = .ok (.ret (.bool true)) ∧ OldK st.heap st'.heap ∧ st'.os = st.os ∧ AllBare st'.gens) st := by
  have M : L2.Mod K mg (hidT st.heap (begH K zs c ys is)) := by
    obtain ⟨mc, c1, c2⟩ := nl
    exact ⟨B.kinB, B.nsB ng, ⟨mb, B.nsB nb, blt⟩, mc, B.nsB c1, c2⟩
  have V : Env0 P w K mg (hidT st.heap (begH K zs c ys is)) callerA [] st (begH K zs c ys is) :=
    { frames := rfl, mod := M, bs := fun _ _ e => of_hidT e, bsz := Nat.le_of_eq (hidT_size _ _), funs := trivial, frf := fun _ m => (nomatch m), hok := B.held, bare := .of_eq gens }
  have run := (F _ B.kinB (B.nsB ng) fun z m => B.tabB ng bm m).run callerA [] st (begH K zs c ys is) ⟨[.ref c], []⟩ [.ref c] [.ref c] _ _ rm (fun _ => rfl) V (bind st (.ref c)) (.cons rfl .nil) (prom _ (fun z m => begH_tb m) B.seen)
  refine codeAny_mono run fun r st' e => ?_
  match r, e with
  | .ok (.ret u), ⟨v, H', os, bare, un, ok, rv, (qv : v = .bl true)⟩ =>
    subst qv
    have eu : u = Value.bool true := rv
    rw [eu]
    exact ⟨rfl, B.old un ok, os, bare⟩
  | .error u, ⟨_, _, _, _, _, _, _, _, _, _, _, _, bad⟩ => exact bad.elim
end
/-- what is told of the law at the head's heap -/
def EndG (l : PySem.W.OpenLaw) (w : World) (K : PySem.W.Frag) (k n : Nat) (x : Str) (mg : Str → Option Value) (f : Addr) (h : Heap) : Prop :=
  ∃ (fd : FuncData) (zs : List (Addr × Addr)) (sp : Sp), (∀ z ∈ zs, h.get? z.2 = some (PySem.W.tabObj #[]) ∧ K.lookup z.2 = none ∧ PySem.W.CodeHd h z.1 z.2) ∧ (∀ (s : Shared) (u : Value), BindsTo s fd ⟨[u], []⟩ [(x, u)]) ∧
    (∀ (H : Hp) (c : Addr) (ns : List Int), ns.length ≤ n → (∀ z ∈ zs, H z.2 = some (.tbl #[])) → SqL K H c (ns.map V.int) → sp [.ref c] H (fun v _ => v = .bl true) E0) ∧
    ∀ base : Heap, K.In base → base.Ns mainGlobals mg → (∀ z ∈ zs, LamX.TabB base mg z.1 z.2) → FnG l.prog w K mg base (L2.CX l.prog w) true k f fd [x] sp
theorem end_walk {l : PySem.W.OpenLaw} {n k : Nat} {q : Program} {loose : List Str} {XP : (Str → Option Value) → Heap → Prop} {YP : World → Heap → Prop} {d : DefRec} {K : Params → PySem.W.Frag} {x : Str} (most : l.most = some n) (few : n ≤ sizeLine)
    (nod : d.params.defaults = []) (rm : Room k callerA) (kin : ∀ (w : World) (h : Heap), YP w h → (K w.params).In h)
    (F : ∀ (w : World) (mg : Str → Option Value) (f : Addr) (h : Heap), YP w h → (K w.params).In h → h.Ns mainGlobals mg → mg d.name = some (.ref f) → EndG l w (K w.params) k n x mg f h) : PySem.W.WalkO q loose XP YP l.row.toRowW d [] (fun f vs => PySem.call f vs) := by
  refine Att.attach_callB most nod ?_
  intro w st0 st mg mb f o pm cd doc c ys ns G Y fo od cr me obj hin len hbt gens
  obtain ⟨fd, zs, sp, ht, hb, hs, hF⟩ := F w mg f st.heap Y (kin w _ Y) G.T.g me
  have B : Beg (K w.params) st.heap zs c ys (ns.map V.int) := ⟨kin w _ Y, fun z m => (ht z m).1, fun z m => (ht z m).2.1, fun z m => (ht z m).2.2, obj, vals_ints hin, by rw [List.length_map]; exact Nat.le_trans len few⟩
  exact end_call B G.T.g G.T.b G.T.builtins G.T.nolimit gens G.T.bmain rm hF hb fun H h1 h2 => hs H c ns len h1 h2
end DL

-- DLY
set_option autoImplicit false
namespace DL
open PySem PySem.Spec PyProof.Rows L2
/-! ### the facts of the top -/
section
variable {K : PySem.W.Frag} {mg : Str → Option Value} {h : Heap}
theorem txt_mk {x : Str} {st : Stmt} {ps : List Str} {f : Addr} {oc : Value} {od an : Option Addr} {osl : Array (Option Value)} {kV doc pm cdv ct : Value} (X : K.In h) (G : h.Ns mainGlobals mg) (a : PySem.W.nsIn K mainGlobals x = some (some (.ref f)))
    (l : K.lookup f = some ⟨oc, od, .func (PySem.W.fnOf x x (defArgs st) (defBody st) (defScope st) .none kV doc pm an cdv ct), osl⟩) (c : PySem.W.codeIn K cdv x = true) (k : PySem.W.keepIn K (.ref f) = true)
    (b : ∀ {f : Addr} {fd : FuncData}, Fun K x x st f fd → Binds K fd ps []) : TxtF K mg x st ps := ⟨f, _, fun_mk (st := st) l c k, b (fun_mk (st := st) l c k), PySem.W.mg_of X G a⟩
theorem txtL_mk {x : Str} {st : Stmt} {ps : List Str} {f cme : Addr} {oc : Value} {od an : Option Addr} {osl : Array (Option Value)} {kV doc pm ct : Value} (X : K.In h) (G : h.Ns mainGlobals mg) (a : PySem.W.nsIn K mainGlobals x = some (some (.ref f)))
    (l : K.lookup f = some ⟨oc, od, .func (PySem.W.fnOf x x (defArgs st) (defBody st) (defScope st) .none kV doc pm an (.ref cme) ct), osl⟩) (c : PySem.W.codeIn K (.ref cme) x = true) (k : PySem.W.keepIn K (.ref f) = true)
    (b : ∀ {f : Addr} {fd : FuncData}, Fun K x x st f fd → Binds K fd ps []) : TxtL K mg x st ps cme := ⟨f, _, fun_mk (st := st) l c k, b (fun_mk (st := st) l c k), PySem.W.mg_of X G a, rfl⟩
/-- constants of the module -/
theorem gd_intK {x : Str} {i : Int} {t : Tok} (X : K.In h) (G : h.Ns mainGlobals mg) (a : PySem.W.nsIn K mainGlobals x = some (some (.int i t))) : GD K mg x (.int i) := ⟨.int i, _, PySem.W.mg_of X G a, ⟨t, rfl⟩, fun _ => .int i⟩
/-- texts as they stand in a tuple -/
inductive StrsV : List Value → List Str → Prop
  | nil : StrsV [] []
  | cons {x : Str} {t : Tok} {vs : List Value} {xs : List Str} : StrsV vs xs → StrsV (.str x t :: vs) (x :: xs)
theorem StrsV.vals : ∀ {vs : List Value} {xs : List Str}, StrsV vs xs → Vals (xs.map V.str) vs
  | _, _, .nil => .nil
  | _, _, .cons s => .cons ⟨_, rfl⟩ s.vals
theorem dq_strs {H : Hp} : ∀ xs : List Str, DqAll K H (xs.map V.str) (xs.map PyData.str)
  | [] => .nil
  | x :: xs => .cons (.str x) (dq_strs xs)
theorem gd_strsK {x : Str} {xs : List Str} {a : Addr} {o : Obj} {its : Array Value} {n : Nat} (X : K.In h) (G : h.Ns mainGlobals mg) (e : PySem.W.nsIn K mainGlobals x = some (some (.ref a))) (l : K.lookup a = some o) (c : o.cls = .type "tuple") (d : o.data = .seq its n) (z : its.size ≤ sizeLine) (s : StrsV its.toList xs) : GD K mg x (.tuple (xs.map .str)) :=
  ⟨.ref a, _, PySem.W.mg_of X G e, rfl, fun _ => .tup (.inr ⟨o, its, n, l, c, d, z, s.vals⟩) (dq_strs xs)⟩
theorem lamH_mk {base : Heap} {T : List (Addr × Str)} {q : Str} {c P : Addr} (tb : LamX.TabB base mg c P) (nd : (T.map (·.1)).Nodup) (m : (P, q) ∈ T) : LamH K mg base T q c P := ⟨tb, m, fun p hp e => by
  induction T with
  | nil => cases hp
  | cons t T ih =>
    rw [List.map_cons, List.nodup_cons] at nd
    rcases List.mem_cons.mp hp with z | z <;> rcases List.mem_cons.mp m with y | y
    · rw [z, ← y]
    · exact (nd.1 (List.mem_map.mpr ⟨_, y, by rw [← z]; exact e.symm⟩)).elim
    · exact (nd.1 (List.mem_map.mpr ⟨_, z, by rw [← y]; exact e⟩)).elim
    · exact ih nd.2 y z⟩
/-! exception classes -/
def kdF (l : List Kd) (c : Addr) : Str := match l.find? fun k => k.1 == c with
  | some k => k.2.2
  | none => ""
theorem kd_one : ∀ {l : List Kd}, (l.map (·.1)).Nodup → ∀ k ∈ l, ∀ j ∈ l, k.1 = j.1 → k = j
  | [], _, k, hk => by cases hk
  | x :: l, nd, k, hk => by
    rw [List.map_cons, List.nodup_cons] at nd
    intro j hj e
    rcases List.mem_cons.mp hk with z | z <;> rcases List.mem_cons.mp hj with y | y
    · rw [z, y]
    · exact (nd.1 (List.mem_map.mpr ⟨j, y, by rw [← z]; exact e.symm⟩)).elim
    · exact (nd.1 (List.mem_map.mpr ⟨k, z, by rw [← y]; exact e⟩)).elim
    · exact kd_one nd.2 k z j y e
theorem kd_f {l : List Kd} (nd : (l.map (·.1)).Nodup) (k : Kd) (hk : k ∈ l) : kdF l k.1 = k.2.2 := by
  unfold kdF
  cases e : l.find? (fun j => j.1 == k.1) with
  | none => exact (List.find?_eq_none.mp e k hk (by simp)).elim
  | some j => rw [kd_one nd j (List.mem_of_find?_eq_some e) k hk (eq_of_beq (List.find?_some (p := fun j : Kd => j.1 == k.1) e))]
/-- which class an except clause takes -/
def exmB (K : PySem.W.Frag) (l : List Kd) : Bool := l.all fun k => l.all fun j => PySem.W.exmOne K (.ref k.1) (.ref j.1) == some (decide (k.1 = j.1))
theorem exm_of {l : List Kd} (b : exmB K l = true) : ∀ k ∈ l, ∀ j ∈ l, PySem.W.exmOne K (.ref k.1) (.ref j.1) = some (decide (k.1 = j.1)) := fun k hk j hj =>
  eq_of_beq (List.all_eq_true.mp (List.all_eq_true.mp b k hk) j hj)
/-- an own class below the program's ValueError -/
theorem ve_cls {S C N : Addr} {nm q : Str} {bs : List Value} {sn : List Str} {sub : List Value} {ab : Bool} {col : Option Bool} {dd : Option Addr} {k0 k1 k2 k3 k5 : Option Value} (x : K.lookup C = some (excClassObj nm q C N bs [.ref S, .type "ValueError", .type "Exception", .type "BaseException", .type "object"] true sn sub ab col dd k0 k1 k2 k3 k5 "ValueError.__new__"))
    (sa : PySem.W.findIn K (.ref C) "__setattr__" = some (some (.builtin "object.__setattr__"))) (ga : PySem.W.findIn K (.ref C) "__getattribute__" = some (some (.builtin "BaseException.__getattribute__"))) (gg : PySem.W.findIn K (.ref C) "__getattr__" = some none)
    (st : PySem.W.findIn K (.ref C) "__str__" = some (some (.builtin "BaseException.__str__"))) (ca : PySem.W.findIn K (.ref C) "__class__" = some (some (.builtin "object.__class__"))) (kC : PySem.W.keepIn K (.ref C) = true) : XV.XCls K C "ValueError.__init__" ∧ PySem.W.typeIn K (.ref C) = some (.type "type") := by
  have cl : ∃ cd, PySem.W.clsIn K C = some cd ∧ cd.mro = [.ref C, .ref S, .type "ValueError", .type "Exception", .type "BaseException", .type "object"] ∧ cd.hasDict = true := ⟨_, (by unfold PySem.W.clsIn; rw [x] <;> rfl), rfl, rfl⟩
  obtain ⟨cd, h1, h2, h3⟩ := cl
  have sub : ∀ b : String, PySem.W.mroIn K C (.type b) = some ([Value.ref C, .ref S, .type "ValueError", .type "Exception", .type "BaseException", .type "object"].contains (.type b)) := fun b => by
    unfold PySem.W.mroIn
    rw [h1, Option.bind_some, h2]
    rfl
  have ty : PySem.W.typeIn K (.ref C) = some (.type "type") := by
    show (K.lookup C).map (·.cls) = _
    rw [x]; rfl
  refine ⟨⟨⟨"ValueError", "ValueError.__new__", PySem.HandSPX.veTail, nm, q, N, bs, [S], sn, _, ab, col, dd, k0, k1, k2, k3, k5, XV.base_VE, x⟩, sa, ga, gg, st, ca, ?_, kC, ?_, ?_⟩, ty⟩
  · exact (sub "BaseException").trans rfl
  · unfold PySem.W.hasDictIn
    rw [h1]; exact h3
  · exact (sub "object").trans rfl
theorem tabs_emp {T : List (Addr × Str)} {H : Hp} (e : ∀ p ∈ T, H p.1 = some (.tbl #[])) : LamX.Tabs T H := fun p hp => ⟨#[], e p hp, trivial, fun pos cv z => by cases z⟩
end
end DL

-- K81Z
set_option autoImplicit false
namespace K81
open PySem PySem.Spec PyProof.Rows L2 DL
abbrev iBadTape : Stmt := inClass (topS 4) 0
theorem init_BadTape {P : Program} {w : World} {K : PySem.W.Frag} {mg : Str → Option Value} {base : Heap} {g C S : Addr} {fd : FuncData} {mc : Value} (F : FunD K "__init__" "BadTape.__init__" (defArgs iBadTape) (defBody iBadTape) (defScope iBadTape) [.non] [] g fd) (T : XV.XCls K C "ValueError.__init__") (hno : PySem.W.findIn K (.ref C) "place" = some none)
    (hm : mg "SlopeError" = some (.ref S)) (hga : PySem.W.specialIn K (.ref S) "__getattribute__" = some (some (.builtin "type.__getattribute__"))) (hrd : PySem.W.readsIn K S mc = true)
    (hf : PySem.W.findCls K (.ref S) mc "__init__" = some (.val (.builtin "ValueError.__init__"))) : FnOk P w K mg base CX0 1 g fd ["self", "place"] (XV.spXJ C "no such tape" "place") := by
  refine F.ok (N := ["self", "place"]) ⟨rfl, rfl, rfl, by decide +kernel, rfl, by decide +kernel, by decide +kernel⟩ (fun vs H Q E h => ?_) (fun cdv A outer s H vs Q E hr h => ?_)
  · obtain ⟨a, t, v, rfl, _⟩ := h
    rfl
  · obtain ⟨a, t, v, rfl, ha, q⟩ := h
    exact ⟨_, pss_cons (ps_expr (XV.pe_xinitS (id := "ValueError.__init__") (by rfl) hm hga hrd hf rfl (pa_cons (pv 0) (pa_cons pe_str pa_nil)))) (pss_one (XV.ps_xst (id := "ValueError.__init__") (pv 0) (pv 1))), XV.xj_read T hno ha q⟩
theorem mk_BadTape {K : PySem.W.Frag} {mg : Str → Option Value} {h : Heap} {C S fI TT N0 : Addr} {nm0 q0 : Str} {bs0 : List Value} {sn0 : List Str} {sub0 : List Value} {ab0 : Bool} {col0 : Option Bool} {dd0 : Option Addr} {m0 m1 m2 m3 m5 : Option Value} {oc kV dc pm cd ct oT : Value} {od an dT : Option Addr} {sl slT : Array (Option Value)} {nT : Nat} (X : K.In h) (G : h.Ns mainGlobals mg)
    (S0 : PySem.W.nsIn K mainGlobals "SlopeError" = some (some (.ref S))) (hga : PySem.W.specialIn K (.ref S) "__getattribute__" = some (some (.builtin "type.__getattribute__"))) (hrd : PySem.W.readsIn K S (.type "type") = true) (hf : PySem.W.findCls K (.ref S) (.type "type") "__init__" = some (.val (.builtin "ValueError.__init__")))
    (aC : PySem.W.nsIn K mainGlobals "BadTape" = some (some (.ref C)))
    (xL : K.lookup C = some (excClassObj nm0 q0 C N0 bs0 [.ref S, .type "ValueError", .type "Exception", .type "BaseException", .type "object"] true sn0 sub0 ab0 col0 dd0 m0 m1 m2 m3 m5 "ValueError.__new__"))
    (sa : PySem.W.findIn K (.ref C) "__setattr__" = some (some (.builtin "object.__setattr__"))) (ga : PySem.W.findIn K (.ref C) "__getattribute__" = some (some (.builtin "BaseException.__getattribute__"))) (gg : PySem.W.findIn K (.ref C) "__getattr__" = some none)
    (st : PySem.W.findIn K (.ref C) "__str__" = some (some (.builtin "BaseException.__str__"))) (ca : PySem.W.findIn K (.ref C) "__class__" = some (some (.builtin "object.__class__"))) (kC : PySem.W.keepIn K (.ref C) = true) (nf : PySem.W.findIn K (.ref C) "place" = some none)
    (iI : PySem.W.findIn K (.ref C) "__init__" = some (some (.ref fI))) (tI : PySem.W.typeIn K (.ref fI) = some (.type "function"))
    (lI : K.lookup fI = some ⟨oc, od, .func (PySem.W.fnOf "__init__" "BadTape.__init__" (defArgs iBadTape) (defBody iBadTape) (defScope iBadTape) (.ref TT) kV dc pm an cd ct), sl⟩) (cI : PySem.W.codeIn K cd "BadTape.__init__" = true) (kI : PySem.W.keepIn K (.ref fI) = true)
    (lT : K.lookup TT = some ⟨oT, dT, .seq [Value.none].toArray nT, slT⟩) (P : Program) (w : World) (base : Heap) (xf : XT) (hx : xf.f C = "place") : XC P w K mg base xf "BadTape" C "place" := by
  obtain ⟨xc, ty⟩ := ve_cls xL sa ga gg st ca kC
  have F : FunD K "__init__" "BadTape.__init__" (defArgs iBadTape) (defBody iBadTape) (defScope iBadTape) [.non] [] fI _ := ⟨⟨_, _, _, _, _, _, _, _, _, _, rfl, lI, cI, .inr ⟨by simp, TT, _, _, _, rfl, lT, rfl, .cons rfl .nil⟩, .inl rfl⟩, kI⟩
  have bp : ∃ ds, Vals [] ds ∧ Binds K _ ["self", "place"] ds := F.binds1 (ps := ["self", "place"]) 2 1 (by simp) rfl (fun _ _ _ _ _ _ _ us its hl hi => match us, hl, its, hi with | [_, _], _, [_], _ => ⟨_, rfl, rfl⟩)
  obtain ⟨its, bk⟩ := F.kbindsD (ps := ["self", "place"]) 1 ["place"] (fun us _ ws => us ++ ws) (by simp) (fun r1 _ r3 => r1.append r3) (fun _ _ _ _ _ _ _ us its ws hl hi hw => match us, hl, its, hi, ws, hw with | [_], _, [_], _, [_], _ => ⟨_, rfl, rfl⟩)
  obtain ⟨ds1, v1, bp⟩ := bp
  cases v1
  exact ⟨hx, _, fI, _, _, xc, ty, ⟨iI, tI, fun s u v k => bp s [u, v] k rfl, fun s u v k => bk.to s [u] [v] k rfl rfl⟩, init_BadTape F xc nf (PySem.W.mg_of X G S0) hga hrd hf, PySem.W.mg_of X G aC⟩
abbrev iBadNumber : Stmt := inClass (topS 3) 0
theorem init_BadNumber {P : Program} {w : World} {K : PySem.W.Frag} {mg : Str → Option Value} {base : Heap} {g C S : Addr} {fd : FuncData} {mc : Value} (F : FunD K "__init__" "BadNumber.__init__" (defArgs iBadNumber) (defBody iBadNumber) (defScope iBadNumber) [.non] [] g fd) (T : XV.XCls K C "ValueError.__init__") (hno : PySem.W.findIn K (.ref C) "value" = some none)
    (hm : mg "SlopeError" = some (.ref S)) (hga : PySem.W.specialIn K (.ref S) "__getattribute__" = some (some (.builtin "type.__getattribute__"))) (hrd : PySem.W.readsIn K S mc = true)
    (hf : PySem.W.findCls K (.ref S) mc "__init__" = some (.val (.builtin "ValueError.__init__"))) : FnOk P w K mg base CX0 1 g fd ["self", "value"] (XV.spXJ C "no such number" "value") := by
  refine F.ok (N := ["self", "value"]) ⟨rfl, rfl, rfl, by decide +kernel, rfl, by decide +kernel, by decide +kernel⟩ (fun vs H Q E h => ?_) (fun cdv A outer s H vs Q E hr h => ?_)
  · obtain ⟨a, t, v, rfl, _⟩ := h
    rfl
  · obtain ⟨a, t, v, rfl, ha, q⟩ := h
    exact ⟨_, pss_cons (ps_expr (XV.pe_xinitS (id := "ValueError.__init__") (by rfl) hm hga hrd hf rfl (pa_cons (pv 0) (pa_cons pe_str pa_nil)))) (pss_one (XV.ps_xst (id := "ValueError.__init__") (pv 0) (pv 1))), XV.xj_read T hno ha q⟩
theorem mk_BadNumber {K : PySem.W.Frag} {mg : Str → Option Value} {h : Heap} {C S fI TT N0 : Addr} {nm0 q0 : Str} {bs0 : List Value} {sn0 : List Str} {sub0 : List Value} {ab0 : Bool} {col0 : Option Bool} {dd0 : Option Addr} {m0 m1 m2 m3 m5 : Option Value} {oc kV dc pm cd ct oT : Value} {od an dT : Option Addr} {sl slT : Array (Option Value)} {nT : Nat} (X : K.In h) (G : h.Ns mainGlobals mg)
    (S0 : PySem.W.nsIn K mainGlobals "SlopeError" = some (some (.ref S))) (hga : PySem.W.specialIn K (.ref S) "__getattribute__" = some (some (.builtin "type.__getattribute__"))) (hrd : PySem.W.readsIn K S (.type "type") = true) (hf : PySem.W.findCls K (.ref S) (.type "type") "__init__" = some (.val (.builtin "ValueError.__init__")))
    (aC : PySem.W.nsIn K mainGlobals "BadNumber" = some (some (.ref C)))
    (xL : K.lookup C = some (excClassObj nm0 q0 C N0 bs0 [.ref S, .type "ValueError", .type "Exception", .type "BaseException", .type "object"] true sn0 sub0 ab0 col0 dd0 m0 m1 m2 m3 m5 "ValueError.__new__"))
    (sa : PySem.W.findIn K (.ref C) "__setattr__" = some (some (.builtin "object.__setattr__"))) (ga : PySem.W.findIn K (.ref C) "__getattribute__" = some (some (.builtin "BaseException.__getattribute__"))) (gg : PySem.W.findIn K (.ref C) "__getattr__" = some none)
    (st : PySem.W.findIn K (.ref C) "__str__" = some (some (.builtin "BaseException.__str__"))) (ca : PySem.W.findIn K (.ref C) "__class__" = some (some (.builtin "object.__class__"))) (kC : PySem.W.keepIn K (.ref C) = true) (nf : PySem.W.findIn K (.ref C) "value" = some none)
    (iI : PySem.W.findIn K (.ref C) "__init__" = some (some (.ref fI))) (tI : PySem.W.typeIn K (.ref fI) = some (.type "function"))
    (lI : K.lookup fI = some ⟨oc, od, .func (PySem.W.fnOf "__init__" "BadNumber.__init__" (defArgs iBadNumber) (defBody iBadNumber) (defScope iBadNumber) (.ref TT) kV dc pm an cd ct), sl⟩) (cI : PySem.W.codeIn K cd "BadNumber.__init__" = true) (kI : PySem.W.keepIn K (.ref fI) = true)
    (lT : K.lookup TT = some ⟨oT, dT, .seq [Value.none].toArray nT, slT⟩) (P : Program) (w : World) (base : Heap) (xf : XT) (hx : xf.f C = "value") : XC P w K mg base xf "BadNumber" C "value" := by
  obtain ⟨xc, ty⟩ := ve_cls xL sa ga gg st ca kC
  have F : FunD K "__init__" "BadNumber.__init__" (defArgs iBadNumber) (defBody iBadNumber) (defScope iBadNumber) [.non] [] fI _ := ⟨⟨_, _, _, _, _, _, _, _, _, _, rfl, lI, cI, .inr ⟨by simp, TT, _, _, _, rfl, lT, rfl, .cons rfl .nil⟩, .inl rfl⟩, kI⟩
  have bp : ∃ ds, Vals [] ds ∧ Binds K _ ["self", "value"] ds := F.binds1 (ps := ["self", "value"]) 2 1 (by simp) rfl (fun _ _ _ _ _ _ _ us its hl hi => match us, hl, its, hi with | [_, _], _, [_], _ => ⟨_, rfl, rfl⟩)
  obtain ⟨its, bk⟩ := F.kbindsD (ps := ["self", "value"]) 1 ["value"] (fun us _ ws => us ++ ws) (by simp) (fun r1 _ r3 => r1.append r3) (fun _ _ _ _ _ _ _ us its ws hl hi hw => match us, hl, its, hi, ws, hw with | [_], _, [_], _, [_], _ => ⟨_, rfl, rfl⟩)
  obtain ⟨ds1, v1, bp⟩ := bp
  cases v1
  exact ⟨hx, _, fI, _, _, xc, ty, ⟨iI, tI, fun s u v k => bp s [u, v] k rfl, fun s u v k => bk.to s [u] [v] k rfl rfl⟩, init_BadNumber F xc nf (PySem.W.mg_of X G S0) hga hrd hf, PySem.W.mg_of X G aC⟩
abbrev iBadMap : Stmt := inClass (topS 9) 0
theorem init_BadMap {P : Program} {w : World} {K : PySem.W.Frag} {mg : Str → Option Value} {base : Heap} {g C S : Addr} {fd : FuncData} {mc : Value} (F : FunD K "__init__" "BadMap.__init__" (defArgs iBadMap) (defBody iBadMap) (defScope iBadMap) [.non] [] g fd) (T : XV.XCls K C "ValueError.__init__") (hno : PySem.W.findIn K (.ref C) "place" = some none)
    (hm : mg "SlopeError" = some (.ref S)) (hga : PySem.W.specialIn K (.ref S) "__getattribute__" = some (some (.builtin "type.__getattribute__"))) (hrd : PySem.W.readsIn K S mc = true)
    (hf : PySem.W.findCls K (.ref S) mc "__init__" = some (.val (.builtin "ValueError.__init__"))) : FnOk P w K mg base CX0 1 g fd ["self", "place"] (XV.spXJ C "no such mapping" "place") := by
  refine F.ok (N := ["self", "place"]) ⟨rfl, rfl, rfl, by decide +kernel, rfl, by decide +kernel, by decide +kernel⟩ (fun vs H Q E h => ?_) (fun cdv A outer s H vs Q E hr h => ?_)
  · obtain ⟨a, t, v, rfl, _⟩ := h
    rfl
  · obtain ⟨a, t, v, rfl, ha, q⟩ := h
    exact ⟨_, pss_cons (ps_expr (XV.pe_xinitS (id := "ValueError.__init__") (by rfl) hm hga hrd hf rfl (pa_cons (pv 0) (pa_cons pe_str pa_nil)))) (pss_one (XV.ps_xst (id := "ValueError.__init__") (pv 0) (pv 1))), XV.xj_read T hno ha q⟩
theorem mk_BadMap {K : PySem.W.Frag} {mg : Str → Option Value} {h : Heap} {C S fI TT N0 : Addr} {nm0 q0 : Str} {bs0 : List Value} {sn0 : List Str} {sub0 : List Value} {ab0 : Bool} {col0 : Option Bool} {dd0 : Option Addr} {m0 m1 m2 m3 m5 : Option Value} {oc kV dc pm cd ct oT : Value} {od an dT : Option Addr} {sl slT : Array (Option Value)} {nT : Nat} (X : K.In h) (G : h.Ns mainGlobals mg)
    (S0 : PySem.W.nsIn K mainGlobals "SlopeError" = some (some (.ref S))) (hga : PySem.W.specialIn K (.ref S) "__getattribute__" = some (some (.builtin "type.__getattribute__"))) (hrd : PySem.W.readsIn K S (.type "type") = true) (hf : PySem.W.findCls K (.ref S) (.type "type") "__init__" = some (.val (.builtin "ValueError.__init__")))
    (aC : PySem.W.nsIn K mainGlobals "BadMap" = some (some (.ref C)))
    (xL : K.lookup C = some (excClassObj nm0 q0 C N0 bs0 [.ref S, .type "ValueError", .type "Exception", .type "BaseException", .type "object"] true sn0 sub0 ab0 col0 dd0 m0 m1 m2 m3 m5 "ValueError.__new__"))
    (sa : PySem.W.findIn K (.ref C) "__setattr__" = some (some (.builtin "object.__setattr__"))) (ga : PySem.W.findIn K (.ref C) "__getattribute__" = some (some (.builtin "BaseException.__getattribute__"))) (gg : PySem.W.findIn K (.ref C) "__getattr__" = some none)
    (st : PySem.W.findIn K (.ref C) "__str__" = some (some (.builtin "BaseException.__str__"))) (ca : PySem.W.findIn K (.ref C) "__class__" = some (some (.builtin "object.__class__"))) (kC : PySem.W.keepIn K (.ref C) = true) (nf : PySem.W.findIn K (.ref C) "place" = some none)
    (iI : PySem.W.findIn K (.ref C) "__init__" = some (some (.ref fI))) (tI : PySem.W.typeIn K (.ref fI) = some (.type "function"))
    (lI : K.lookup fI = some ⟨oc, od, .func (PySem.W.fnOf "__init__" "BadMap.__init__" (defArgs iBadMap) (defBody iBadMap) (defScope iBadMap) (.ref TT) kV dc pm an cd ct), sl⟩) (cI : PySem.W.codeIn K cd "BadMap.__init__" = true) (kI : PySem.W.keepIn K (.ref fI) = true)
    (lT : K.lookup TT = some ⟨oT, dT, .seq [Value.none].toArray nT, slT⟩) (P : Program) (w : World) (base : Heap) (xf : XT) (hx : xf.f C = "place") : XC P w K mg base xf "BadMap" C "place" := by
  obtain ⟨xc, ty⟩ := ve_cls xL sa ga gg st ca kC
  have F : FunD K "__init__" "BadMap.__init__" (defArgs iBadMap) (defBody iBadMap) (defScope iBadMap) [.non] [] fI _ := ⟨⟨_, _, _, _, _, _, _, _, _, _, rfl, lI, cI, .inr ⟨by simp, TT, _, _, _, rfl, lT, rfl, .cons rfl .nil⟩, .inl rfl⟩, kI⟩
  have bp : ∃ ds, Vals [] ds ∧ Binds K _ ["self", "place"] ds := F.binds1 (ps := ["self", "place"]) 2 1 (by simp) rfl (fun _ _ _ _ _ _ _ us its hl hi => match us, hl, its, hi with | [_, _], _, [_], _ => ⟨_, rfl, rfl⟩)
  obtain ⟨its, bk⟩ := F.kbindsD (ps := ["self", "place"]) 1 ["place"] (fun us _ ws => us ++ ws) (by simp) (fun r1 _ r3 => r1.append r3) (fun _ _ _ _ _ _ _ us its ws hl hi hw => match us, hl, its, hi, ws, hw with | [_], _, [_], _, [_], _ => ⟨_, rfl, rfl⟩)
  obtain ⟨ds1, v1, bp⟩ := bp
  cases v1
  exact ⟨hx, _, fI, _, _, xc, ty, ⟨iI, tI, fun s u v k => bp s [u, v] k rfl, fun s u v k => bk.to s [u] [v] k rfl rfl⟩, init_BadMap F xc nf (PySem.W.mg_of X G S0) hga hrd hf, PySem.W.mg_of X G aC⟩
abbrev iBadPaper : Stmt := inClass (topS 7) 0
theorem init_BadPaper {P : Program} {w : World} {K : PySem.W.Frag} {mg : Str → Option Value} {base : Heap} {g C S : Addr} {fd : FuncData} {mc : Value} (F : FunD K "__init__" "BadPaper.__init__" (defArgs iBadPaper) (defBody iBadPaper) (defScope iBadPaper) [.non] [] g fd) (T : XV.XCls K C "ValueError.__init__") (hno : PySem.W.findIn K (.ref C) "place" = some none)
    (hm : mg "SlopeError" = some (.ref S)) (hga : PySem.W.specialIn K (.ref S) "__getattribute__" = some (some (.builtin "type.__getattribute__"))) (hrd : PySem.W.readsIn K S mc = true)
    (hf : PySem.W.findCls K (.ref S) mc "__init__" = some (.val (.builtin "ValueError.__init__"))) : FnOk P w K mg base CX0 1 g fd ["self", "place"] (XV.spXJ C "no such paper" "place") := by
  refine F.ok (N := ["self", "place"]) ⟨rfl, rfl, rfl, by decide +kernel, rfl, by decide +kernel, by decide +kernel⟩ (fun vs H Q E h => ?_) (fun cdv A outer s H vs Q E hr h => ?_)
  · obtain ⟨a, t, v, rfl, _⟩ := h
    rfl
  · obtain ⟨a, t, v, rfl, ha, q⟩ := h
    exact ⟨_, pss_cons (ps_expr (XV.pe_xinitS (id := "ValueError.__init__") (by rfl) hm hga hrd hf rfl (pa_cons (pv 0) (pa_cons pe_str pa_nil)))) (pss_one (XV.ps_xst (id := "ValueError.__init__") (pv 0) (pv 1))), XV.xj_read T hno ha q⟩
theorem mk_BadPaper {K : PySem.W.Frag} {mg : Str → Option Value} {h : Heap} {C S fI TT N0 : Addr} {nm0 q0 : Str} {bs0 : List Value} {sn0 : List Str} {sub0 : List Value} {ab0 : Bool} {col0 : Option Bool} {dd0 : Option Addr} {m0 m1 m2 m3 m5 : Option Value} {oc kV dc pm cd ct oT : Value} {od an dT : Option Addr} {sl slT : Array (Option Value)} {nT : Nat} (X : K.In h) (G : h.Ns mainGlobals mg)
    (S0 : PySem.W.nsIn K mainGlobals "SlopeError" = some (some (.ref S))) (hga : PySem.W.specialIn K (.ref S) "__getattribute__" = some (some (.builtin "type.__getattribute__"))) (hrd : PySem.W.readsIn K S (.type "type") = true) (hf : PySem.W.findCls K (.ref S) (.type "type") "__init__" = some (.val (.builtin "ValueError.__init__")))
    (aC : PySem.W.nsIn K mainGlobals "BadPaper" = some (some (.ref C)))
    (xL : K.lookup C = some (excClassObj nm0 q0 C N0 bs0 [.ref S, .type "ValueError", .type "Exception", .type "BaseException", .type "object"] true sn0 sub0 ab0 col0 dd0 m0 m1 m2 m3 m5 "ValueError.__new__"))
    (sa : PySem.W.findIn K (.ref C) "__setattr__" = some (some (.builtin "object.__setattr__"))) (ga : PySem.W.findIn K (.ref C) "__getattribute__" = some (some (.builtin "BaseException.__getattribute__"))) (gg : PySem.W.findIn K (.ref C) "__getattr__" = some none)
    (st : PySem.W.findIn K (.ref C) "__str__" = some (some (.builtin "BaseException.__str__"))) (ca : PySem.W.findIn K (.ref C) "__class__" = some (some (.builtin "object.__class__"))) (kC : PySem.W.keepIn K (.ref C) = true) (nf : PySem.W.findIn K (.ref C) "place" = some none)
    (iI : PySem.W.findIn K (.ref C) "__init__" = some (some (.ref fI))) (tI : PySem.W.typeIn K (.ref fI) = some (.type "function"))
    (lI : K.lookup fI = some ⟨oc, od, .func (PySem.W.fnOf "__init__" "BadPaper.__init__" (defArgs iBadPaper) (defBody iBadPaper) (defScope iBadPaper) (.ref TT) kV dc pm an cd ct), sl⟩) (cI : PySem.W.codeIn K cd "BadPaper.__init__" = true) (kI : PySem.W.keepIn K (.ref fI) = true)
    (lT : K.lookup TT = some ⟨oT, dT, .seq [Value.none].toArray nT, slT⟩) (P : Program) (w : World) (base : Heap) (xf : XT) (hx : xf.f C = "place") : XC P w K mg base xf "BadPaper" C "place" := by
  obtain ⟨xc, ty⟩ := ve_cls xL sa ga gg st ca kC
  have F : FunD K "__init__" "BadPaper.__init__" (defArgs iBadPaper) (defBody iBadPaper) (defScope iBadPaper) [.non] [] fI _ := ⟨⟨_, _, _, _, _, _, _, _, _, _, rfl, lI, cI, .inr ⟨by simp, TT, _, _, _, rfl, lT, rfl, .cons rfl .nil⟩, .inl rfl⟩, kI⟩
  have bp : ∃ ds, Vals [] ds ∧ Binds K _ ["self", "place"] ds := F.binds1 (ps := ["self", "place"]) 2 1 (by simp) rfl (fun _ _ _ _ _ _ _ us its hl hi => match us, hl, its, hi with | [_, _], _, [_], _ => ⟨_, rfl, rfl⟩)
  obtain ⟨its, bk⟩ := F.kbindsD (ps := ["self", "place"]) 1 ["place"] (fun us _ ws => us ++ ws) (by simp) (fun r1 _ r3 => r1.append r3) (fun _ _ _ _ _ _ _ us its ws hl hi hw => match us, hl, its, hi, ws, hw with | [_], _, [_], _, [_], _ => ⟨_, rfl, rfl⟩)
  obtain ⟨ds1, v1, bp⟩ := bp
  cases v1
  exact ⟨hx, _, fI, _, _, xc, ty, ⟨iI, tI, fun s u v k => bp s [u, v] k rfl, fun s u v k => bk.to s [u] [v] k rfl rfl⟩, init_BadPaper F xc nf (PySem.W.mg_of X G S0) hga hrd hf, PySem.W.mg_of X G aC⟩
theorem all_mk {l : PySem.W.OpenLaw} {w : World} {K : PySem.W.Frag} {h : Heap} {mg : Str → Option Value} {fa : Addr} (X : K.In h) (G : h.Ns mainGlobals mg) (hfa : mg "law" = some (.ref fa))
    {S : Addr}
    {C0 : Addr}
    {C1 : Addr}
    {C2 : Addr}
    {C3 : Addr}
    {C4 : Addr}
    {C5 : Addr}
    {C6 : Addr}
    {C7 : Addr}
    {C8 : Addr}
    {fIx0 TTx0 N0x0 : Addr} {nm0x0 q0x0 : Str} {bs0x0 : List Value} {sn0x0 : List Str} {sub0x0 : List Value} {ab0x0 : Bool} {col0x0 : Option Bool} {dd0x0 : Option Addr} {m0x0 m1x0 m2x0 m3x0 m5x0 : Option Value} {ocx0 kVx0 dcx0 pmx0 cdx0 ctx0 oTx0 : Value} {odx0 anx0 dTx0 : Option Addr} {slx0 slTx0 : Array (Option Value)} {nTx0 : Nat}
    {fIx6 TTx6 N0x6 : Addr} {nm0x6 q0x6 : Str} {bs0x6 : List Value} {sn0x6 : List Str} {sub0x6 : List Value} {ab0x6 : Bool} {col0x6 : Option Bool} {dd0x6 : Option Addr} {m0x6 m1x6 m2x6 m3x6 m5x6 : Option Value} {ocx6 kVx6 dcx6 pmx6 cdx6 ctx6 oTx6 : Value} {odx6 anx6 dTx6 : Option Addr} {slx6 slTx6 : Array (Option Value)} {nTx6 : Nat}
    {fIx1 TTx1 N0x1 : Addr} {nm0x1 q0x1 : Str} {bs0x1 : List Value} {sn0x1 : List Str} {sub0x1 : List Value} {ab0x1 : Bool} {col0x1 : Option Bool} {dd0x1 : Option Addr} {m0x1 m1x1 m2x1 m3x1 m5x1 : Option Value} {ocx1 kVx1 dcx1 pmx1 cdx1 ctx1 oTx1 : Value} {odx1 anx1 dTx1 : Option Addr} {slx1 slTx1 : Array (Option Value)} {nTx1 : Nat}
    {fIx4 TTx4 N0x4 : Addr} {nm0x4 q0x4 : Str} {bs0x4 : List Value} {sn0x4 : List Str} {sub0x4 : List Value} {ab0x4 : Bool} {col0x4 : Option Bool} {dd0x4 : Option Addr} {m0x4 m1x4 m2x4 m3x4 m5x4 : Option Value} {ocx4 kVx4 dcx4 pmx4 cdx4 ctx4 oTx4 : Value} {odx4 anx4 dTx4 : Option Addr} {slx4 slTx4 : Array (Option Value)} {nTx4 : Nat}
    {t_MOST_NUMBER : Tok}
    {a_PAIR_KINDS : Addr} {od_PAIR_KINDS : Option Addr} {sl_PAIR_KINDS : Array (Option Value)} {n_PAIR_KINDS : Nat} {t_PAIR_KINDS_0 t_PAIR_KINDS_1 t_PAIR_KINDS_2 t_PAIR_KINDS_3 : Tok}
    {t_MOST_INPUTS : Tok}
    {t_MOST_ROWS : Tok}
    {t_MOST_OUTS : Tok}
    {t_MOST_BOX : Tok}
    {f0 : Addr} {od0 an0 : Option Addr} {sl0 : Array (Option Value)} {oc0 kV0 dc0 pm0 ct0 : Value} {cd0 : Value}
    {f1 : Addr} {od1 an1 : Option Addr} {sl1 : Array (Option Value)} {oc1 kV1 dc1 pm1 ct1 : Value} {cd1 : Value}
    {f2 : Addr} {od2 an2 : Option Addr} {sl2 : Array (Option Value)} {oc2 kV2 dc2 pm2 ct2 : Value} {cd2 : Value}
    {f3 : Addr} {od3 an3 : Option Addr} {sl3 : Array (Option Value)} {oc3 kV3 dc3 pm3 ct3 : Value} {cd3 : Value}
    {f4 : Addr} {od4 an4 : Option Addr} {sl4 : Array (Option Value)} {oc4 kV4 dc4 pm4 ct4 : Value} {cd4 : Value}
    {f5 : Addr} {od5 an5 : Option Addr} {sl5 : Array (Option Value)} {oc5 kV5 dc5 pm5 ct5 : Value} {cd5 : Value}
    {f6 : Addr} {od6 an6 : Option Addr} {sl6 : Array (Option Value)} {oc6 kV6 dc6 pm6 ct6 : Value} {cd6 : Value}
    {f7 : Addr} {od7 an7 : Option Addr} {sl7 : Array (Option Value)} {oc7 kV7 dc7 pm7 ct7 : Value} {cd7 : Value}
    {f8 : Addr} {od8 an8 : Option Addr} {sl8 : Array (Option Value)} {oc8 kV8 dc8 pm8 ct8 : Value} {cd8 : Value}
    {f9 : Addr} {od9 an9 : Option Addr} {sl9 : Array (Option Value)} {oc9 kV9 dc9 pm9 ct9 : Value} {cd9 : Value}
    {f10 : Addr} {od10 an10 : Option Addr} {sl10 : Array (Option Value)} {oc10 kV10 dc10 pm10 ct10 : Value} {cd10 : Value}
    {f11 : Addr} {od11 an11 : Option Addr} {sl11 : Array (Option Value)} {oc11 kV11 dc11 pm11 ct11 : Value} {cd11 : Value}
    {f12 : Addr} {od12 an12 : Option Addr} {sl12 : Array (Option Value)} {oc12 kV12 dc12 pm12 ct12 : Value} {cd12 : Value}
    {f13 : Addr} {od13 an13 : Option Addr} {sl13 : Array (Option Value)} {oc13 kV13 dc13 pm13 ct13 : Value} {cd13 : Value}
    {f14 : Addr} {od14 an14 : Option Addr} {sl14 : Array (Option Value)} {oc14 kV14 dc14 pm14 ct14 : Value} {cd14 : Value}
    {f15 : Addr} {od15 an15 : Option Addr} {sl15 : Array (Option Value)} {oc15 kV15 dc15 pm15 ct15 : Value} {cd15 : Value}
    {f16 : Addr} {od16 an16 : Option Addr} {sl16 : Array (Option Value)} {oc16 kV16 dc16 pm16 ct16 : Value} {cd16 : Value}
    {f17 : Addr} {od17 an17 : Option Addr} {sl17 : Array (Option Value)} {oc17 kV17 dc17 pm17 ct17 : Value} {cd17 : Value}
    {f18 : Addr} {od18 an18 : Option Addr} {sl18 : Array (Option Value)} {oc18 kV18 dc18 pm18 ct18 : Value} {cd18 : Value}
    {f19 : Addr} {od19 an19 : Option Addr} {sl19 : Array (Option Value)} {oc19 kV19 dc19 pm19 ct19 : Value} {cd19 : Value}
    {f20 : Addr} {od20 an20 : Option Addr} {sl20 : Array (Option Value)} {oc20 kV20 dc20 pm20 ct20 : Value} {cd20 : Value}
    {f21 : Addr} {od21 an21 : Option Addr} {sl21 : Array (Option Value)} {oc21 kV21 dc21 pm21 ct21 : Value} {cd21 : Value}
    {f22 : Addr} {od22 an22 : Option Addr} {sl22 : Array (Option Value)} {oc22 kV22 dc22 pm22 ct22 : Value} {cd22 : Value}
    {f23 : Addr} {od23 an23 : Option Addr} {sl23 : Array (Option Value)} {oc23 kV23 dc23 pm23 ct23 : Value} {cd23 : Value}
    {f24 : Addr} {od24 an24 : Option Addr} {sl24 : Array (Option Value)} {oc24 kV24 dc24 pm24 ct24 : Value} {cd24 : Value}
    {f25 : Addr} {od25 an25 : Option Addr} {sl25 : Array (Option Value)} {oc25 kV25 dc25 pm25 ct25 : Value} {cm25 PT25 : Addr} {occ25 : Value} {odc25 : Option Addr} {vsc25 : Array Value} {slc25 : Array (Option Value)}
    {f26 : Addr} {od26 an26 : Option Addr} {sl26 : Array (Option Value)} {oc26 kV26 dc26 pm26 ct26 : Value} {cd26 : Value}
    {f27 : Addr} {od27 an27 : Option Addr} {sl27 : Array (Option Value)} {oc27 kV27 dc27 pm27 ct27 : Value} {cd27 : Value}
    {f28 : Addr} {od28 an28 : Option Addr} {sl28 : Array (Option Value)} {oc28 kV28 dc28 pm28 ct28 : Value} {cd28 : Value}
    {f29 : Addr} {od29 an29 : Option Addr} {sl29 : Array (Option Value)} {oc29 kV29 dc29 pm29 ct29 : Value} {cd29 : Value}
    {f30 : Addr} {od30 an30 : Option Addr} {sl30 : Array (Option Value)} {oc30 kV30 dc30 pm30 ct30 : Value} {cd30 : Value}
    {f31 : Addr} {od31 an31 : Option Addr} {sl31 : Array (Option Value)} {oc31 kV31 dc31 pm31 ct31 : Value} {cd31 : Value}
    {f32 : Addr} {od32 an32 : Option Addr} {sl32 : Array (Option Value)} {oc32 kV32 dc32 pm32 ct32 : Value} {cd32 : Value}
    {f33 : Addr} {od33 an33 : Option Addr} {sl33 : Array (Option Value)} {oc33 kV33 dc33 pm33 ct33 : Value} {cm33 PT33 : Addr} {occ33 : Value} {odc33 : Option Addr} {vsc33 : Array Value} {slc33 : Array (Option Value)}
    {f34 : Addr} {od34 an34 : Option Addr} {sl34 : Array (Option Value)} {oc34 kV34 dc34 pm34 ct34 : Value} {cd34 : Value}
    {f35 : Addr} {od35 an35 : Option Addr} {sl35 : Array (Option Value)} {oc35 kV35 dc35 pm35 ct35 : Value} {cd35 : Value}
    (S0 : PySem.W.nsIn K mainGlobals "SlopeError" = some (some (.ref S)))
    (S1 : PySem.W.specialIn K (.ref S) "__getattribute__" = some (some (.builtin "type.__getattribute__")))
    (S2 : PySem.W.readsIn K S (.type "type") = true)
    (S3 : PySem.W.findCls K (.ref S) (.type "type") "__init__" = some (.val (.builtin "ValueError.__init__")))
    (aC0 : PySem.W.nsIn K mainGlobals "BadTape" = some (some (.ref C0)))
    (xf0 : xfB K C0 = true)
    (nf0 : PySem.W.findIn K (.ref C0) "place" = some none)
    (aC1 : PySem.W.nsIn K mainGlobals "BadMap" = some (some (.ref C1)))
    (xf1 : xfB K C1 = true)
    (nf1 : PySem.W.findIn K (.ref C1) "place" = some none)
    (aC2 : PySem.W.nsIn K mainGlobals "BadCode" = some (some (.ref C2)))
    (xf2 : xfB K C2 = true)
    (nf2 : PySem.W.findIn K (.ref C2) "place" = some none)
    (aC3 : PySem.W.nsIn K mainGlobals "BadPoint" = some (some (.ref C3)))
    (xf3 : xfB K C3 = true)
    (nf3 : PySem.W.findIn K (.ref C3) "place" = some none)
    (aC4 : PySem.W.nsIn K mainGlobals "BadPaper" = some (some (.ref C4)))
    (xf4 : xfB K C4 = true)
    (nf4 : PySem.W.findIn K (.ref C4) "place" = some none)
    (aC5 : PySem.W.nsIn K mainGlobals "BadText" = some (some (.ref C5)))
    (xf5 : xfB K C5 = true)
    (nf5 : PySem.W.findIn K (.ref C5) "place" = some none)
    (aC6 : PySem.W.nsIn K mainGlobals "BadNumber" = some (some (.ref C6)))
    (xf6 : xfB K C6 = true)
    (nf6 : PySem.W.findIn K (.ref C6) "value" = some none)
    (aC7 : PySem.W.nsIn K mainGlobals "NoSuch" = some (some (.ref C7)))
    (xf7 : xfB K C7 = true)
    (nf7 : PySem.W.findIn K (.ref C7) "value" = some none)
    (aC8 : PySem.W.nsIn K mainGlobals "TooMany" = some (some (.ref C8)))
    (xf8 : xfB K C8 = true)
    (nf8 : PySem.W.findIn K (.ref C8) "most" = some none)
    (nd : ([C0, C1, C2, C3, C4, C5, C6, C7, C8] : List Addr).Nodup)
    (exm : exmB K [(C0, "tape", "place"), (C1, "map", "place"), (C2, "code", "place"), (C3, "point", "place"), (C4, "paper", "place"), (C5, "text", "place"), (C6, "number", "value"), (C7, "none", "value"), (C8, "many", "most")] = true)
    (xL0 : K.lookup C0 = some (excClassObj nm0x0 q0x0 C0 N0x0 bs0x0 [.ref S, .type "ValueError", .type "Exception", .type "BaseException", .type "object"] true sn0x0 sub0x0 ab0x0 col0x0 dd0x0 m0x0 m1x0 m2x0 m3x0 m5x0 "ValueError.__new__"))
    (sa0 : PySem.W.findIn K (.ref C0) "__setattr__" = some (some (.builtin "object.__setattr__")))
    (ga0 : PySem.W.findIn K (.ref C0) "__getattribute__" = some (some (.builtin "BaseException.__getattribute__")))
    (gg0 : PySem.W.findIn K (.ref C0) "__getattr__" = some none)
    (st0 : PySem.W.findIn K (.ref C0) "__str__" = some (some (.builtin "BaseException.__str__")))
    (ca0 : PySem.W.findIn K (.ref C0) "__class__" = some (some (.builtin "object.__class__")))
    (kC0 : PySem.W.keepIn K (.ref C0) = true)
    (iI0 : PySem.W.findIn K (.ref C0) "__init__" = some (some (.ref fIx0)))
    (tI0 : PySem.W.typeIn K (.ref fIx0) = some (.type "function"))
    (lI0 : K.lookup fIx0 = some ⟨ocx0, odx0, .func (PySem.W.fnOf "__init__" "BadTape.__init__" (defArgs iBadTape) (defBody iBadTape) (defScope iBadTape) (.ref TTx0) kVx0 dcx0 pmx0 anx0 cdx0 ctx0), slx0⟩)
    (cI0 : PySem.W.codeIn K cdx0 "BadTape.__init__" = true)
    (kI0 : PySem.W.keepIn K (.ref fIx0) = true)
    (lT0 : K.lookup TTx0 = some ⟨oTx0, dTx0, .seq [Value.none].toArray nTx0, slTx0⟩)
    (xL6 : K.lookup C6 = some (excClassObj nm0x6 q0x6 C6 N0x6 bs0x6 [.ref S, .type "ValueError", .type "Exception", .type "BaseException", .type "object"] true sn0x6 sub0x6 ab0x6 col0x6 dd0x6 m0x6 m1x6 m2x6 m3x6 m5x6 "ValueError.__new__"))
    (sa6 : PySem.W.findIn K (.ref C6) "__setattr__" = some (some (.builtin "object.__setattr__")))
    (ga6 : PySem.W.findIn K (.ref C6) "__getattribute__" = some (some (.builtin "BaseException.__getattribute__")))
    (gg6 : PySem.W.findIn K (.ref C6) "__getattr__" = some none)
    (st6 : PySem.W.findIn K (.ref C6) "__str__" = some (some (.builtin "BaseException.__str__")))
    (ca6 : PySem.W.findIn K (.ref C6) "__class__" = some (some (.builtin "object.__class__")))
    (kC6 : PySem.W.keepIn K (.ref C6) = true)
    (iI6 : PySem.W.findIn K (.ref C6) "__init__" = some (some (.ref fIx6)))
    (tI6 : PySem.W.typeIn K (.ref fIx6) = some (.type "function"))
    (lI6 : K.lookup fIx6 = some ⟨ocx6, odx6, .func (PySem.W.fnOf "__init__" "BadNumber.__init__" (defArgs iBadNumber) (defBody iBadNumber) (defScope iBadNumber) (.ref TTx6) kVx6 dcx6 pmx6 anx6 cdx6 ctx6), slx6⟩)
    (cI6 : PySem.W.codeIn K cdx6 "BadNumber.__init__" = true)
    (kI6 : PySem.W.keepIn K (.ref fIx6) = true)
    (lT6 : K.lookup TTx6 = some ⟨oTx6, dTx6, .seq [Value.none].toArray nTx6, slTx6⟩)
    (xL1 : K.lookup C1 = some (excClassObj nm0x1 q0x1 C1 N0x1 bs0x1 [.ref S, .type "ValueError", .type "Exception", .type "BaseException", .type "object"] true sn0x1 sub0x1 ab0x1 col0x1 dd0x1 m0x1 m1x1 m2x1 m3x1 m5x1 "ValueError.__new__"))
    (sa1 : PySem.W.findIn K (.ref C1) "__setattr__" = some (some (.builtin "object.__setattr__")))
    (ga1 : PySem.W.findIn K (.ref C1) "__getattribute__" = some (some (.builtin "BaseException.__getattribute__")))
    (gg1 : PySem.W.findIn K (.ref C1) "__getattr__" = some none)
    (st1 : PySem.W.findIn K (.ref C1) "__str__" = some (some (.builtin "BaseException.__str__")))
    (ca1 : PySem.W.findIn K (.ref C1) "__class__" = some (some (.builtin "object.__class__")))
    (kC1 : PySem.W.keepIn K (.ref C1) = true)
    (iI1 : PySem.W.findIn K (.ref C1) "__init__" = some (some (.ref fIx1)))
    (tI1 : PySem.W.typeIn K (.ref fIx1) = some (.type "function"))
    (lI1 : K.lookup fIx1 = some ⟨ocx1, odx1, .func (PySem.W.fnOf "__init__" "BadMap.__init__" (defArgs iBadMap) (defBody iBadMap) (defScope iBadMap) (.ref TTx1) kVx1 dcx1 pmx1 anx1 cdx1 ctx1), slx1⟩)
    (cI1 : PySem.W.codeIn K cdx1 "BadMap.__init__" = true)
    (kI1 : PySem.W.keepIn K (.ref fIx1) = true)
    (lT1 : K.lookup TTx1 = some ⟨oTx1, dTx1, .seq [Value.none].toArray nTx1, slTx1⟩)
    (xL4 : K.lookup C4 = some (excClassObj nm0x4 q0x4 C4 N0x4 bs0x4 [.ref S, .type "ValueError", .type "Exception", .type "BaseException", .type "object"] true sn0x4 sub0x4 ab0x4 col0x4 dd0x4 m0x4 m1x4 m2x4 m3x4 m5x4 "ValueError.__new__"))
    (sa4 : PySem.W.findIn K (.ref C4) "__setattr__" = some (some (.builtin "object.__setattr__")))
    (ga4 : PySem.W.findIn K (.ref C4) "__getattribute__" = some (some (.builtin "BaseException.__getattribute__")))
    (gg4 : PySem.W.findIn K (.ref C4) "__getattr__" = some none)
    (st4 : PySem.W.findIn K (.ref C4) "__str__" = some (some (.builtin "BaseException.__str__")))
    (ca4 : PySem.W.findIn K (.ref C4) "__class__" = some (some (.builtin "object.__class__")))
    (kC4 : PySem.W.keepIn K (.ref C4) = true)
    (iI4 : PySem.W.findIn K (.ref C4) "__init__" = some (some (.ref fIx4)))
    (tI4 : PySem.W.typeIn K (.ref fIx4) = some (.type "function"))
    (lI4 : K.lookup fIx4 = some ⟨ocx4, odx4, .func (PySem.W.fnOf "__init__" "BadPaper.__init__" (defArgs iBadPaper) (defBody iBadPaper) (defScope iBadPaper) (.ref TTx4) kVx4 dcx4 pmx4 anx4 cdx4 ctx4), slx4⟩)
    (cI4 : PySem.W.codeIn K cdx4 "BadPaper.__init__" = true)
    (kI4 : PySem.W.keepIn K (.ref fIx4) = true)
    (lT4 : K.lookup TTx4 = some ⟨oTx4, dTx4, .seq [Value.none].toArray nTx4, slTx4⟩)
    (g_MOST_NUMBER : PySem.W.nsIn K mainGlobals "MOST_NUMBER" = some (some (.int (10 ^ 60) t_MOST_NUMBER)))
    (g_PAIR_KINDS : PySem.W.nsIn K mainGlobals "PAIR_KINDS" = some (some (.ref a_PAIR_KINDS)))
    (l_PAIR_KINDS : K.lookup a_PAIR_KINDS = some ⟨.type "tuple", od_PAIR_KINDS, .seq [.str "add" t_PAIR_KINDS_0, .str "sub" t_PAIR_KINDS_1, .str "mul" t_PAIR_KINDS_2, .str "div" t_PAIR_KINDS_3].toArray n_PAIR_KINDS, sl_PAIR_KINDS⟩)
    (g_MOST_INPUTS : PySem.W.nsIn K mainGlobals "MOST_INPUTS" = some (some (.int (64) t_MOST_INPUTS)))
    (g_MOST_ROWS : PySem.W.nsIn K mainGlobals "MOST_ROWS" = some (some (.int (400) t_MOST_ROWS)))
    (g_MOST_OUTS : PySem.W.nsIn K mainGlobals "MOST_OUTS" = some (some (.int (64) t_MOST_OUTS)))
    (g_MOST_BOX : PySem.W.nsIn K mainGlobals "MOST_BOX" = some (some (.int (399) t_MOST_BOX)))
    (a0 : PySem.W.nsIn K mainGlobals "_law_draw" = some (some (.ref f0)))
    (l0 : K.lookup f0 = some ⟨oc0, od0, .func (PySem.W.fnOf "_law_draw" "_law_draw" (defArgs sLawDraw) (defBody sLawDraw) (defScope sLawDraw) .none kV0 dc0 pm0 an0 cd0 ct0), sl0⟩)
    (c0 : PySem.W.codeIn K cd0 "_law_draw" = true)
    (k0 : PySem.W.keepIn K (.ref f0) = true)
    (a1 : PySem.W.nsIn K mainGlobals "_law_mixed" = some (some (.ref f1)))
    (l1 : K.lookup f1 = some ⟨oc1, od1, .func (PySem.W.fnOf "_law_mixed" "_law_mixed" (defArgs sLawMixed) (defBody sLawMixed) (defScope sLawMixed) .none kV1 dc1 pm1 an1 cd1 ct1), sl1⟩)
    (c1 : PySem.W.codeIn K cd1 "_law_mixed" = true)
    (k1 : PySem.W.keepIn K (.ref f1) = true)
    (a2 : PySem.W.nsIn K mainGlobals "_law_digit" = some (some (.ref f2)))
    (l2 : K.lookup f2 = some ⟨oc2, od2, .func (PySem.W.fnOf "_law_digit" "_law_digit" (defArgs sLawDigit) (defBody sLawDigit) (defScope sLawDigit) .none kV2 dc2 pm2 an2 cd2 ct2), sl2⟩)
    (c2 : PySem.W.codeIn K cd2 "_law_digit" = true)
    (k2 : PySem.W.keepIn K (.ref f2) = true)
    (a3 : PySem.W.nsIn K mainGlobals "_law_ratio" = some (some (.ref f3)))
    (l3 : K.lookup f3 = some ⟨oc3, od3, .func (PySem.W.fnOf "_law_ratio" "_law_ratio" (defArgs sLawRatio) (defBody sLawRatio) (defScope sLawRatio) .none kV3 dc3 pm3 an3 cd3 ct3), sl3⟩)
    (c3 : PySem.W.codeIn K cd3 "_law_ratio" = true)
    (k3 : PySem.W.keepIn K (.ref f3) = true)
    (a4 : PySem.W.nsIn K mainGlobals "_law_tape" = some (some (.ref f4)))
    (l4 : K.lookup f4 = some ⟨oc4, od4, .func (PySem.W.fnOf "_law_tape" "_law_tape" (defArgs sLawTape) (defBody sLawTape) (defScope sLawTape) .none kV4 dc4 pm4 an4 cd4 ct4), sl4⟩)
    (c4 : PySem.W.codeIn K cd4 "_law_tape" = true)
    (k4 : PySem.W.keepIn K (.ref f4) = true)
    (a5 : PySem.W.nsIn K mainGlobals "is_whole" = some (some (.ref f5)))
    (l5 : K.lookup f5 = some ⟨oc5, od5, .func (PySem.W.fnOf "is_whole" "is_whole" (defArgs sIsWhole) (defBody sIsWhole) (defScope sIsWhole) .none kV5 dc5 pm5 an5 cd5 ct5), sl5⟩)
    (c5 : PySem.W.codeIn K cd5 "is_whole" = true)
    (k5 : PySem.W.keepIn K (.ref f5) = true)
    (a6 : PySem.W.nsIn K mainGlobals "is_fraction" = some (some (.ref f6)))
    (l6 : K.lookup f6 = some ⟨oc6, od6, .func (PySem.W.fnOf "is_fraction" "is_fraction" (defArgs sIsFraction) (defBody sIsFraction) (defScope sIsFraction) .none kV6 dc6 pm6 an6 cd6 ct6), sl6⟩)
    (c6 : PySem.W.codeIn K cd6 "is_fraction" = true)
    (k6 : PySem.W.keepIn K (.ref f6) = true)
    (a7 : PySem.W.nsIn K mainGlobals "wrong_row" = some (some (.ref f7)))
    (l7 : K.lookup f7 = some ⟨oc7, od7, .func (PySem.W.fnOf "wrong_row" "wrong_row" (defArgs sWrongRow) (defBody sWrongRow) (defScope sWrongRow) .none kV7 dc7 pm7 an7 cd7 ct7), sl7⟩)
    (c7 : PySem.W.codeIn K cd7 "wrong_row" = true)
    (k7 : PySem.W.keepIn K (.ref f7) = true)
    (a8 : PySem.W.nsIn K mainGlobals "wrong_tape" = some (some (.ref f8)))
    (l8 : K.lookup f8 = some ⟨oc8, od8, .func (PySem.W.fnOf "wrong_tape" "wrong_tape" (defArgs sWrongTape) (defBody sWrongTape) (defScope sWrongTape) .none kV8 dc8 pm8 an8 cd8 ct8), sl8⟩)
    (c8 : PySem.W.codeIn K cd8 "wrong_tape" = true)
    (k8 : PySem.W.keepIn K (.ref f8) = true)
    (a9 : PySem.W.nsIn K mainGlobals "need_tape" = some (some (.ref f9)))
    (l9 : K.lookup f9 = some ⟨oc9, od9, .func (PySem.W.fnOf "need_tape" "need_tape" (defArgs sNeedTape) (defBody sNeedTape) (defScope sNeedTape) .none kV9 dc9 pm9 an9 cd9 ct9), sl9⟩)
    (c9 : PySem.W.codeIn K cd9 "need_tape" = true)
    (k9 : PySem.W.keepIn K (.ref f9) = true)
    (a10 : PySem.W.nsIn K mainGlobals "own_uses" = some (some (.ref f10)))
    (l10 : K.lookup f10 = some ⟨oc10, od10, .func (PySem.W.fnOf "own_uses" "own_uses" (defArgs sOwnUses) (defBody sOwnUses) (defScope sOwnUses) .none kV10 dc10 pm10 an10 cd10 ct10), sl10⟩)
    (c10 : PySem.W.codeIn K cd10 "own_uses" = true)
    (k10 : PySem.W.keepIn K (.ref f10) = true)
    (a11 : PySem.W.nsIn K mainGlobals "own_lives" = some (some (.ref f11)))
    (l11 : K.lookup f11 = some ⟨oc11, od11, .func (PySem.W.fnOf "own_lives" "own_lives" (defArgs sOwnLives) (defBody sOwnLives) (defScope sOwnLives) .none kV11 dc11 pm11 an11 cd11 ct11), sl11⟩)
    (c11 : PySem.W.codeIn K cd11 "own_lives" = true)
    (k11 : PySem.W.keepIn K (.ref f11) = true)
    (a12 : PySem.W.nsIn K mainGlobals "live_at" = some (some (.ref f12)))
    (l12 : K.lookup f12 = some ⟨oc12, od12, .func (PySem.W.fnOf "live_at" "live_at" (defArgs sLiveAt) (defBody sLiveAt) (defScope sLiveAt) .none kV12 dc12 pm12 an12 cd12 ct12), sl12⟩)
    (c12 : PySem.W.codeIn K cd12 "live_at" = true)
    (k12 : PySem.W.keepIn K (.ref f12) = true)
    (a13 : PySem.W.nsIn K mainGlobals "own_loads" = some (some (.ref f13)))
    (l13 : K.lookup f13 = some ⟨oc13, od13, .func (PySem.W.fnOf "own_loads" "own_loads" (defArgs sOwnLoads) (defBody sOwnLoads) (defScope sOwnLoads) .none kV13 dc13 pm13 an13 cd13 ct13), sl13⟩)
    (c13 : PySem.W.codeIn K cd13 "own_loads" = true)
    (k13 : PySem.W.keepIn K (.ref f13) = true)
    (a14 : PySem.W.nsIn K mainGlobals "do_overlap" = some (some (.ref f14)))
    (l14 : K.lookup f14 = some ⟨oc14, od14, .func (PySem.W.fnOf "do_overlap" "do_overlap" (defArgs sDoOverlap) (defBody sDoOverlap) (defScope sDoOverlap) .none kV14 dc14 pm14 an14 cd14 ct14), sl14⟩)
    (c14 : PySem.W.codeIn K cd14 "do_overlap" = true)
    (k14 : PySem.W.keepIn K (.ref f14) = true)
    (a15 : PySem.W.nsIn K mainGlobals "own_first_boxes" = some (some (.ref f15)))
    (l15 : K.lookup f15 = some ⟨oc15, od15, .func (PySem.W.fnOf "own_first_boxes" "own_first_boxes" (defArgs sOwnFirstBoxes) (defBody sOwnFirstBoxes) (defScope sOwnFirstBoxes) .none kV15 dc15 pm15 an15 cd15 ct15), sl15⟩)
    (c15 : PySem.W.codeIn K cd15 "own_first_boxes" = true)
    (k15 : PySem.W.keepIn K (.ref f15) = true)
    (a16 : PySem.W.nsIn K mainGlobals "box_paper" = some (some (.ref f16)))
    (l16 : K.lookup f16 = some ⟨oc16, od16, .func (PySem.W.fnOf "box_paper" "box_paper" (defArgs sBoxPaper) (defBody sBoxPaper) (defScope sBoxPaper) .none kV16 dc16 pm16 an16 cd16 ct16), sl16⟩)
    (c16 : PySem.W.codeIn K cd16 "box_paper" = true)
    (k16 : PySem.W.keepIn K (.ref f16) = true)
    (a17 : PySem.W.nsIn K mainGlobals "first_boxes" = some (some (.ref f17)))
    (l17 : K.lookup f17 = some ⟨oc17, od17, .func (PySem.W.fnOf "first_boxes" "first_boxes" (defArgs sFirstBoxes) (defBody sFirstBoxes) (defScope sFirstBoxes) .none kV17 dc17 pm17 an17 cd17 ct17), sl17⟩)
    (c17 : PySem.W.codeIn K cd17 "first_boxes" = true)
    (k17 : PySem.W.keepIn K (.ref f17) = true)
    (a18 : PySem.W.nsIn K mainGlobals "peak_of" = some (some (.ref f18)))
    (l18 : K.lookup f18 = some ⟨oc18, od18, .func (PySem.W.fnOf "peak_of" "peak_of" (defArgs sPeakOf) (defBody sPeakOf) (defScope sPeakOf) .none kV18 dc18 pm18 an18 cd18 ct18), sl18⟩)
    (c18 : PySem.W.codeIn K cd18 "peak_of" = true)
    (k18 : PySem.W.keepIn K (.ref f18) = true)
    (a19 : PySem.W.nsIn K mainGlobals "loads_of" = some (some (.ref f19)))
    (l19 : K.lookup f19 = some ⟨oc19, od19, .func (PySem.W.fnOf "loads_of" "loads_of" (defArgs sLoadsOf) (defBody sLoadsOf) (defScope sLoadsOf) .none kV19 dc19 pm19 an19 cd19 ct19), sl19⟩)
    (c19 : PySem.W.codeIn K cd19 "loads_of" = true)
    (k19 : PySem.W.keepIn K (.ref f19) = true)
    (a20 : PySem.W.nsIn K mainGlobals "lives_of" = some (some (.ref f20)))
    (l20 : K.lookup f20 = some ⟨oc20, od20, .func (PySem.W.fnOf "lives_of" "lives_of" (defArgs sLivesOf) (defBody sLivesOf) (defScope sLivesOf) .none kV20 dc20 pm20 an20 cd20 ct20), sl20⟩)
    (c20 : PySem.W.codeIn K cd20 "lives_of" = true)
    (k20 : PySem.W.keepIn K (.ref f20) = true)
    (a21 : PySem.W.nsIn K mainGlobals "wrong_boxes" = some (some (.ref f21)))
    (l21 : K.lookup f21 = some ⟨oc21, od21, .func (PySem.W.fnOf "wrong_boxes" "wrong_boxes" (defArgs sWrongBoxes) (defBody sWrongBoxes) (defScope sWrongBoxes) .none kV21 dc21 pm21 an21 cd21 ct21), sl21⟩)
    (c21 : PySem.W.codeIn K cd21 "wrong_boxes" = true)
    (k21 : PySem.W.keepIn K (.ref f21) = true)
    (a22 : PySem.W.nsIn K mainGlobals "need_boxes" = some (some (.ref f22)))
    (l22 : K.lookup f22 = some ⟨oc22, od22, .func (PySem.W.fnOf "need_boxes" "need_boxes" (defArgs sNeedBoxes) (defBody sNeedBoxes) (defScope sNeedBoxes) .none kV22 dc22 pm22 an22 cd22 ct22), sl22⟩)
    (c22 : PySem.W.codeIn K cd22 "need_boxes" = true)
    (k22 : PySem.W.keepIn K (.ref f22) = true)
    (a23 : PySem.W.nsIn K mainGlobals "check_boxes" = some (some (.ref f23)))
    (l23 : K.lookup f23 = some ⟨oc23, od23, .func (PySem.W.fnOf "check_boxes" "check_boxes" (defArgs sCheckBoxes) (defBody sCheckBoxes) (defScope sCheckBoxes) .none kV23 dc23 pm23 an23 cd23 ct23), sl23⟩)
    (c23 : PySem.W.codeIn K cd23 "check_boxes" = true)
    (k23 : PySem.W.keepIn K (.ref f23) = true)
    (a24 : PySem.W.nsIn K mainGlobals "_law_told" = some (some (.ref f24)))
    (l24 : K.lookup f24 = some ⟨oc24, od24, .func (PySem.W.fnOf "_law_told" "_law_told" (defArgs sLawTold) (defBody sLawTold) (defScope sLawTold) .none kV24 dc24 pm24 an24 cd24 ct24), sl24⟩)
    (c24 : PySem.W.codeIn K cd24 "_law_told" = true)
    (k24 : PySem.W.keepIn K (.ref f24) = true)
    (a25 : PySem.W.nsIn K mainGlobals "_law_refused_right" = some (some (.ref f25)))
    (l25 : K.lookup f25 = some ⟨oc25, od25, .func (PySem.W.fnOf "_law_refused_right" "_law_refused_right" (defArgs sLawRefusedRight) (defBody sLawRefusedRight) (defScope sLawRefusedRight) .none kV25 dc25 pm25 an25 (.ref cm25) ct25), sl25⟩)
    (c25 : PySem.W.codeIn K (.ref cm25) "_law_refused_right" = true)
    (k25 : PySem.W.keepIn K (.ref f25) = true)
    (a26 : PySem.W.nsIn K mainGlobals "_law_parts" = some (some (.ref f26)))
    (l26 : K.lookup f26 = some ⟨oc26, od26, .func (PySem.W.fnOf "_law_parts" "_law_parts" (defArgs sLawParts) (defBody sLawParts) (defScope sLawParts) .none kV26 dc26 pm26 an26 cd26 ct26), sl26⟩)
    (c26 : PySem.W.codeIn K cd26 "_law_parts" = true)
    (k26 : PySem.W.keepIn K (.ref f26) = true)
    (a27 : PySem.W.nsIn K mainGlobals "_law_lives" = some (some (.ref f27)))
    (l27 : K.lookup f27 = some ⟨oc27, od27, .func (PySem.W.fnOf "_law_lives" "_law_lives" (defArgs sLawLives) (defBody sLawLives) (defScope sLawLives) .none kV27 dc27 pm27 an27 cd27 ct27), sl27⟩)
    (c27 : PySem.W.codeIn K cd27 "_law_lives" = true)
    (k27 : PySem.W.keepIn K (.ref f27) = true)
    (a28 : PySem.W.nsIn K mainGlobals "_law_boxes" = some (some (.ref f28)))
    (l28 : K.lookup f28 = some ⟨oc28, od28, .func (PySem.W.fnOf "_law_boxes" "_law_boxes" (defArgs sLawBoxes) (defBody sLawBoxes) (defScope sLawBoxes) .none kV28 dc28 pm28 an28 cd28 ct28), sl28⟩)
    (c28 : PySem.W.codeIn K cd28 "_law_boxes" = true)
    (k28 : PySem.W.keepIn K (.ref f28) = true)
    (a29 : PySem.W.nsIn K mainGlobals "_law_loads" = some (some (.ref f29)))
    (l29 : K.lookup f29 = some ⟨oc29, od29, .func (PySem.W.fnOf "_law_loads" "_law_loads" (defArgs sLawLoads) (defBody sLawLoads) (defScope sLawLoads) .none kV29 dc29 pm29 an29 cd29 ct29), sl29⟩)
    (c29 : PySem.W.codeIn K cd29 "_law_loads" = true)
    (k29 : PySem.W.keepIn K (.ref f29) = true)
    (a30 : PySem.W.nsIn K mainGlobals "_law_drawn_boxes" = some (some (.ref f30)))
    (l30 : K.lookup f30 = some ⟨oc30, od30, .func (PySem.W.fnOf "_law_drawn_boxes" "_law_drawn_boxes" (defArgs sLawDrawnBoxes) (defBody sLawDrawnBoxes) (defScope sLawDrawnBoxes) .none kV30 dc30 pm30 an30 cd30 ct30), sl30⟩)
    (c30 : PySem.W.codeIn K cd30 "_law_drawn_boxes" = true)
    (k30 : PySem.W.keepIn K (.ref f30) = true)
    (a31 : PySem.W.nsIn K mainGlobals "_law_wrong" = some (some (.ref f31)))
    (l31 : K.lookup f31 = some ⟨oc31, od31, .func (PySem.W.fnOf "_law_wrong" "_law_wrong" (defArgs sLawWrong) (defBody sLawWrong) (defScope sLawWrong) .none kV31 dc31 pm31 an31 cd31 ct31), sl31⟩)
    (c31 : PySem.W.codeIn K cd31 "_law_wrong" = true)
    (k31 : PySem.W.keepIn K (.ref f31) = true)
    (a32 : PySem.W.nsIn K mainGlobals "_law_due" = some (some (.ref f32)))
    (l32 : K.lookup f32 = some ⟨oc32, od32, .func (PySem.W.fnOf "_law_due" "_law_due" (defArgs sLawDue) (defBody sLawDue) (defScope sLawDue) .none kV32 dc32 pm32 an32 cd32 ct32), sl32⟩)
    (c32 : PySem.W.codeIn K cd32 "_law_due" = true)
    (k32 : PySem.W.keepIn K (.ref f32) = true)
    (a33 : PySem.W.nsIn K mainGlobals "_law_boxes_right" = some (some (.ref f33)))
    (l33 : K.lookup f33 = some ⟨oc33, od33, .func (PySem.W.fnOf "_law_boxes_right" "_law_boxes_right" (defArgs sLawBoxesRight) (defBody sLawBoxesRight) (defScope sLawBoxesRight) .none kV33 dc33 pm33 an33 (.ref cm33) ct33), sl33⟩)
    (c33 : PySem.W.codeIn K (.ref cm33) "_law_boxes_right" = true)
    (k33 : PySem.W.keepIn K (.ref f33) = true)
    (a34 : PySem.W.nsIn K mainGlobals "_law_lives_right" = some (some (.ref f34)))
    (l34 : K.lookup f34 = some ⟨oc34, od34, .func (PySem.W.fnOf "_law_lives_right" "_law_lives_right" (defArgs sLawLivesRight) (defBody sLawLivesRight) (defScope sLawLivesRight) .none kV34 dc34 pm34 an34 cd34 ct34), sl34⟩)
    (c34 : PySem.W.codeIn K cd34 "_law_lives_right" = true)
    (k34 : PySem.W.keepIn K (.ref f34) = true)
    (a35 : PySem.W.nsIn K mainGlobals "law" = some (some (.ref f35)))
    (l35 : K.lookup f35 = some ⟨oc35, od35, .func (PySem.W.fnOf "law" "law" (defArgs sLaw) (defBody sLaw) (defScope sLaw) .none kV35 dc35 pm35 an35 cd35 ct35), sl35⟩)
    (c35 : PySem.W.codeIn K cd35 "law" = true)
    (k35 : PySem.W.keepIn K (.ref f35) = true)
    (lc25 : K.lookup cm25 = some ⟨occ25, odc25, .fields vsc25, slc25⟩)
    (vp25 : vsc25[11]? = some (.ref PT25))
    (hd25 : PySem.W.codeHdIn K cm25 PT25 = true)
    (nT25 : K.lookup PT25 = none)
    (em25 : h.get? PT25 = some (PySem.W.tabObj #[]))
    (lc33 : K.lookup cm33 = some ⟨occ33, odc33, .fields vsc33, slc33⟩)
    (vp33 : vsc33[11]? = some (.ref PT33))
    (hd33 : PySem.W.codeHdIn K cm33 PT33 = true)
    (nT33 : K.lookup PT33 = none)
    (em33 : h.get? PT33 = some (PySem.W.tabObj #[]))
    (ndT : ([PT25, PT33] : List Addr).Nodup)
    (z_len : PySem.W.nsIn K mainGlobals "len" = some none)
    (z_isinstance : PySem.W.nsIn K mainGlobals "isinstance" = some none)
    (z_int : PySem.W.nsIn K mainGlobals "int" = some none)
    (z_bool : PySem.W.nsIn K mainGlobals "bool" = some none)
    (z_str : PySem.W.nsIn K mainGlobals "str" = some none)
    (z_list : PySem.W.nsIn K mainGlobals "list" = some none)
    (z_tuple : PySem.W.nsIn K mainGlobals "tuple" = some none)
    (z_range : PySem.W.nsIn K mainGlobals "range" = some none)
    (z_enumerate : PySem.W.nsIn K mainGlobals "enumerate" = some none)
    (z_max : PySem.W.nsIn K mainGlobals "max" = some none)
    (z_min : PySem.W.nsIn K mainGlobals "min" = some none)
    (z_sum : PySem.W.nsIn K mainGlobals "sum" = some none)
    (z_all : PySem.W.nsIn K mainGlobals "all" = some none)
    (z_abs : PySem.W.nsIn K mainGlobals "abs" = some none)
    (z_repr : PySem.W.nsIn K mainGlobals "repr" = some none)
    (z_set : PySem.W.nsIn K mainGlobals "set" = some none)
    (m_gcd : PySem.W.nsIn K mainGlobals "gcd" = some (some (.builtin "math.gcd")))
    : EndG l w K 10 63 "script" mg fa h := by
  have e := hfa.symm.trans (PySem.W.mg_of X G a35)
  cases e
  obtain ⟨xa, e0, e1, e2, e3, e4, e5, e6, e7, e8⟩ : ∃ xa : Str → Addr, C0 = xa "BadTape" ∧ C1 = xa "BadMap" ∧ C2 = xa "BadCode" ∧ C3 = xa "BadPoint" ∧ C4 = xa "BadPaper" ∧ C5 = xa "BadText" ∧ C6 = xa "BadNumber" ∧ C7 = xa "NoSuch" ∧ C8 = xa "TooMany" := ⟨fun x => (List.lookup x [("BadTape", C0), ("BadMap", C1), ("BadCode", C2), ("BadPoint", C3), ("BadPaper", C4), ("BadText", C5), ("BadNumber", C6), ("NoSuch", C7), ("TooMany", C8)]).getD 0, by rfl, by rfl, by rfl, by rfl, by rfl, by rfl, by rfl, by rfl, by rfl⟩
  subst e0 e1 e2 e3 e4 e5 e6 e7 e8
  have exk := exm_of (l := kindsT xa) exm
  have ndk : ((kindsT xa).map (·.1)).Nodup := nd
  have one := kd_one ndk
  have hkf := kd_f ndk
  have t__law_draw : TxtF K mg "_law_draw" sLawDraw ["cell", "k"] := txt_mk X G a0 l0 c0 k0 (fun F => F.binds fun _ _ _ _ _ _ us hl => match us, hl with | [_, _], _ => rfl)
  have t__law_mixed : TxtF K mg "_law_mixed" sLawMixed ["cell", "k"] := txt_mk X G a1 l1 c1 k1 (fun F => F.binds fun _ _ _ _ _ _ us hl => match us, hl with | [_, _], _ => rfl)
  have t__law_digit : TxtF K mg "_law_digit" sLawDigit ["state", "below"] := txt_mk X G a2 l2 c2 k2 (fun F => F.binds fun _ _ _ _ _ _ us hl => match us, hl with | [_, _], _ => rfl)
  have t__law_ratio : TxtF K mg "_law_ratio" sLawRatio ["top", "bottom"] := txt_mk X G a3 l3 c3 k3 (fun F => F.binds fun _ _ _ _ _ _ us hl => match us, hl with | [_, _], _ => rfl)
  have t__law_tape : TxtF K mg "_law_tape" sLawTape ["state", "inputs", "most"] := txt_mk X G a4 l4 c4 k4 (fun F => F.binds fun _ _ _ _ _ _ us hl => match us, hl with | [_, _, _], _ => rfl)
  have t_is_whole : TxtF K mg "is_whole" sIsWhole ["thing", "least", "most"] := txt_mk X G a5 l5 c5 k5 (fun F => F.binds fun _ _ _ _ _ _ us hl => match us, hl with | [_, _, _], _ => rfl)
  have t_is_fraction : TxtF K mg "is_fraction" sIsFraction ["thing"] := txt_mk X G a6 l6 c6 k6 (fun F => F.binds fun _ _ _ _ _ _ us hl => match us, hl with | [_], _ => rfl)
  have t_wrong_row : TxtF K mg "wrong_row" sWrongRow ["values", "thing"] := txt_mk X G a7 l7 c7 k7 (fun F => F.binds fun _ _ _ _ _ _ us hl => match us, hl with | [_, _], _ => rfl)
  have t_wrong_tape : TxtF K mg "wrong_tape" sWrongTape ["thing"] := txt_mk X G a8 l8 c8 k8 (fun F => F.binds fun _ _ _ _ _ _ us hl => match us, hl with | [_], _ => rfl)
  have t_need_tape : TxtF K mg "need_tape" sNeedTape ["tape"] := txt_mk X G a9 l9 c9 k9 (fun F => F.binds fun _ _ _ _ _ _ us hl => match us, hl with | [_], _ => rfl)
  have t_own_uses : TxtF K mg "own_uses" sOwnUses ["row"] := txt_mk X G a10 l10 c10 k10 (fun F => F.binds fun _ _ _ _ _ _ us hl => match us, hl with | [_], _ => rfl)
  have t_own_lives : TxtF K mg "own_lives" sOwnLives ["tape"] := txt_mk X G a11 l11 c11 k11 (fun F => F.binds fun _ _ _ _ _ _ us hl => match us, hl with | [_], _ => rfl)
  have t_live_at : TxtF K mg "live_at" sLiveAt ["tape", "moment"] := txt_mk X G a12 l12 c12 k12 (fun F => F.binds fun _ _ _ _ _ _ us hl => match us, hl with | [_, _], _ => rfl)
  have t_own_loads : TxtF K mg "own_loads" sOwnLoads ["tape"] := txt_mk X G a13 l13 c13 k13 (fun F => F.binds fun _ _ _ _ _ _ us hl => match us, hl with | [_], _ => rfl)
  have t_do_overlap : TxtF K mg "do_overlap" sDoOverlap ["one", "other"] := txt_mk X G a14 l14 c14 k14 (fun F => F.binds fun _ _ _ _ _ _ us hl => match us, hl with | [_, _], _ => rfl)
  have t_own_first_boxes : TxtF K mg "own_first_boxes" sOwnFirstBoxes ["tape"] := txt_mk X G a15 l15 c15 k15 (fun F => F.binds fun _ _ _ _ _ _ us hl => match us, hl with | [_], _ => rfl)
  have t_box_paper : TxtF K mg "box_paper" sBoxPaper ["tape"] := txt_mk X G a16 l16 c16 k16 (fun F => F.binds fun _ _ _ _ _ _ us hl => match us, hl with | [_], _ => rfl)
  have t_first_boxes : TxtF K mg "first_boxes" sFirstBoxes ["tape"] := txt_mk X G a17 l17 c17 k17 (fun F => F.binds fun _ _ _ _ _ _ us hl => match us, hl with | [_], _ => rfl)
  have t_peak_of : TxtF K mg "peak_of" sPeakOf ["tape"] := txt_mk X G a18 l18 c18 k18 (fun F => F.binds fun _ _ _ _ _ _ us hl => match us, hl with | [_], _ => rfl)
  have t_loads_of : TxtF K mg "loads_of" sLoadsOf ["tape"] := txt_mk X G a19 l19 c19 k19 (fun F => F.binds fun _ _ _ _ _ _ us hl => match us, hl with | [_], _ => rfl)
  have t_lives_of : TxtF K mg "lives_of" sLivesOf ["tape"] := txt_mk X G a20 l20 c20 k20 (fun F => F.binds fun _ _ _ _ _ _ us hl => match us, hl with | [_], _ => rfl)
  have t_wrong_boxes : TxtF K mg "wrong_boxes" sWrongBoxes ["tape", "thing"] := txt_mk X G a21 l21 c21 k21 (fun F => F.binds fun _ _ _ _ _ _ us hl => match us, hl with | [_, _], _ => rfl)
  have t_need_boxes : TxtF K mg "need_boxes" sNeedBoxes ["tape", "boxes"] := txt_mk X G a22 l22 c22 k22 (fun F => F.binds fun _ _ _ _ _ _ us hl => match us, hl with | [_, _], _ => rfl)
  have t_check_boxes : TxtF K mg "check_boxes" sCheckBoxes ["tape", "paper"] := txt_mk X G a23 l23 c23 k23 (fun F => F.binds fun _ _ _ _ _ _ us hl => match us, hl with | [_, _], _ => rfl)
  have t__law_told : TxtF K mg "_law_told" sLawTold ["deed"] := txt_mk X G a24 l24 c24 k24 (fun F => F.binds fun _ _ _ _ _ _ us hl => match us, hl with | [_], _ => rfl)
  have t__law_refused_right : TxtL K mg "_law_refused_right" sLawRefusedRight ["tape"] cm25 := txtL_mk X G a25 l25 c25 k25 (fun F => F.binds fun _ _ _ _ _ _ us hl => match us, hl with | [_], _ => rfl)
  have t__law_parts : TxtF K mg "_law_parts" sLawParts ["row"] := txt_mk X G a26 l26 c26 k26 (fun F => F.binds fun _ _ _ _ _ _ us hl => match us, hl with | [_], _ => rfl)
  have t__law_lives : TxtF K mg "_law_lives" sLawLives ["tape"] := txt_mk X G a27 l27 c27 k27 (fun F => F.binds fun _ _ _ _ _ _ us hl => match us, hl with | [_], _ => rfl)
  have t__law_boxes : TxtF K mg "_law_boxes" sLawBoxes ["tape"] := txt_mk X G a28 l28 c28 k28 (fun F => F.binds fun _ _ _ _ _ _ us hl => match us, hl with | [_], _ => rfl)
  have t__law_loads : TxtF K mg "_law_loads" sLawLoads ["tape"] := txt_mk X G a29 l29 c29 k29 (fun F => F.binds fun _ _ _ _ _ _ us hl => match us, hl with | [_], _ => rfl)
  have t__law_drawn_boxes : TxtF K mg "_law_drawn_boxes" sLawDrawnBoxes ["state", "tape", "most"] := txt_mk X G a30 l30 c30 k30 (fun F => F.binds fun _ _ _ _ _ _ us hl => match us, hl with | [_, _, _], _ => rfl)
  have t__law_wrong : TxtF K mg "_law_wrong" sLawWrong ["tape", "thing"] := txt_mk X G a31 l31 c31 k31 (fun F => F.binds fun _ _ _ _ _ _ us hl => match us, hl with | [_, _], _ => rfl)
  have t__law_due : TxtF K mg "_law_due" sLawDue ["tape", "paper"] := txt_mk X G a32 l32 c32 k32 (fun F => F.binds fun _ _ _ _ _ _ us hl => match us, hl with | [_, _], _ => rfl)
  have t__law_boxes_right : TxtL K mg "_law_boxes_right" sLawBoxesRight ["state", "tape"] cm33 := txtL_mk X G a33 l33 c33 k33 (fun F => F.binds fun _ _ _ _ _ _ us hl => match us, hl with | [_, _], _ => rfl)
  have t__law_lives_right : TxtF K mg "_law_lives_right" sLawLivesRight ["state", "tape"] := txt_mk X G a34 l34 c34 k34 (fun F => F.binds fun _ _ _ _ _ _ us hl => match us, hl with | [_, _], _ => rfl)
  have g_MOST_NUMBER : GD K mg "MOST_NUMBER" CMOST_NUMBER := gd_intK X G g_MOST_NUMBER
  have g_PAIR_KINDS : GD K mg "PAIR_KINDS" CPAIR_KINDS := gd_strsK (xs := ["add", "sub", "mul", "div"]) X G g_PAIR_KINDS l_PAIR_KINDS rfl rfl (by show 4 ≤ sizeLine; decide) (.cons (.cons (.cons (.cons .nil))))
  have g_MOST_INPUTS : GD K mg "MOST_INPUTS" CMOST_INPUTS := gd_intK X G g_MOST_INPUTS
  have g_MOST_ROWS : GD K mg "MOST_ROWS" CMOST_ROWS := gd_intK X G g_MOST_ROWS
  have g_MOST_OUTS : GD K mg "MOST_OUTS" CMOST_OUTS := gd_intK X G g_MOST_OUTS
  have g_MOST_BOX : GD K mg "MOST_BOX" CMOST_BOX := gd_intK X G g_MOST_BOX
  have m_gcd := PySem.W.mg_of X G m_gcd
  have B : Blt mg := ⟨PySem.W.mg_none_of X G z_len, PySem.W.mg_none_of X G z_isinstance, PySem.W.mg_none_of X G z_int, PySem.W.mg_none_of X G z_bool, PySem.W.mg_none_of X G z_str, PySem.W.mg_none_of X G z_list, PySem.W.mg_none_of X G z_tuple, PySem.W.mg_none_of X G z_range, PySem.W.mg_none_of X G z_enumerate, PySem.W.mg_none_of X G z_max, PySem.W.mg_none_of X G z_min, PySem.W.mg_none_of X G z_sum, PySem.W.mg_none_of X G z_all, PySem.W.mg_none_of X G z_abs, PySem.W.mg_none_of X G z_repr, PySem.W.mg_none_of X G z_set⟩
  have F := fun_mk (st := sLaw) l35 c35 k35
  have Tt : ∀ H : Hp, (∀ z ∈ ([(cm25, PT25), (cm33, PT33)] : List (Addr × Addr)), H z.2 = some (.tbl #[])) → LamX.Tabs [(PT25, ("_law_refused_right.<locals>.<lambda>" : Str)), (PT33, ("_law_boxes_right.<locals>.<lambda>" : Str))] H := fun H e => tabs_emp fun p hp => by
    simp only [List.mem_cons, List.not_mem_nil, or_false] at hp
    rcases hp with rfl | rfl
    · exact e (cm25, PT25) (by simp)
    · exact e (cm33, PT33) (by simp)
  refine ⟨PySem.W.fnOf "law" "law" (defArgs sLaw) (defBody sLaw) (defScope sLaw) .none kV35 dc35 pm35 an35 cd35 ct35, [(cm25, PT25), (cm33, PT33)], spLawT K [(PT25, ("_law_refused_right.<locals>.<lambda>" : Str)), (PT33, ("_law_boxes_right.<locals>.<lambda>" : Str))], fun z hz => ?_, fun s v => .of_eq rfl, fun H c ns hl e sq => ⟨c, ns, rfl, sq, hl, Tt H e, fun _ => rfl⟩, fun base kin bns tb => ?_⟩
  · simp only [List.mem_cons, List.not_mem_nil, or_false] at hz
    rcases hz with rfl | rfl
    · exact ⟨em25, nT25, PySem.W.codeHd_of_K X hd25⟩
    · exact ⟨em33, nT33, PySem.W.codeHd_of_K X hd33⟩
  · obtain ⟨xf, hxf⟩ : ∃ xf : XT, xf = ⟨kdF (kindsT xa), [(PT25, ("_law_refused_right.<locals>.<lambda>" : Str)), (PT33, ("_law_boxes_right.<locals>.<lambda>" : Str))]⟩ := ⟨_, rfl⟩
    have hT : xf.T = [(PT25, ("_law_refused_right.<locals>.<lambda>" : Str)), (PT33, ("_law_boxes_right.<locals>.<lambda>" : Str))] := by rw [hxf]
    have hxk : ∀ k ∈ kindsT xa, xf.f k.1 = k.2.2 := by rw [hxf]; exact hkf
    have x_BadTape : XC l.prog w K mg base xf "BadTape" (xa "BadTape") "place" := mk_BadTape X G S0 S1 S2 S3 aC0 xL0 sa0 ga0 gg0 st0 ca0 kC0 nf0 iI0 tI0 lI0 cI0 kI0 lT0 l.prog w base xf (hxk (xa "BadTape", "tape", "place") (by simp [kindsT]))
    have x_BadNumber : XC l.prog w K mg base xf "BadNumber" (xa "BadNumber") "value" := mk_BadNumber X G S0 S1 S2 S3 aC6 xL6 sa6 ga6 gg6 st6 ca6 kC6 nf6 iI6 tI6 lI6 cI6 kI6 lT6 l.prog w base xf (hxk (xa "BadNumber", "number", "value") (by simp [kindsT]))
    have x_BadMap : XC l.prog w K mg base xf "BadMap" (xa "BadMap") "place" := mk_BadMap X G S0 S1 S2 S3 aC1 xL1 sa1 ga1 gg1 st1 ca1 kC1 nf1 iI1 tI1 lI1 cI1 kI1 lT1 l.prog w base xf (hxk (xa "BadMap", "map", "place") (by simp [kindsT]))
    have x_BadPaper : XC l.prog w K mg base xf "BadPaper" (xa "BadPaper") "place" := mk_BadPaper X G S0 S1 S2 S3 aC4 xL4 sa4 ga4 gg4 st4 ca4 kC4 nf4 iI4 tI4 lI4 cI4 kI4 lT4 l.prog w base xf (hxk (xa "BadPaper", "paper", "place") (by simp [kindsT]))
    have y_BadTape : XF K mg xa "BadTape" "place" := ⟨PySem.W.mg_of X G aC0, xfB_ok xf0, nf0⟩
    have y_BadMap : XF K mg xa "BadMap" "place" := ⟨PySem.W.mg_of X G aC1, xfB_ok xf1, nf1⟩
    have y_BadCode : XF K mg xa "BadCode" "place" := ⟨PySem.W.mg_of X G aC2, xfB_ok xf2, nf2⟩
    have y_BadPoint : XF K mg xa "BadPoint" "place" := ⟨PySem.W.mg_of X G aC3, xfB_ok xf3, nf3⟩
    have y_BadPaper : XF K mg xa "BadPaper" "place" := ⟨PySem.W.mg_of X G aC4, xfB_ok xf4, nf4⟩
    have y_BadText : XF K mg xa "BadText" "place" := ⟨PySem.W.mg_of X G aC5, xfB_ok xf5, nf5⟩
    have y_BadNumber : XF K mg xa "BadNumber" "value" := ⟨PySem.W.mg_of X G aC6, xfB_ok xf6, nf6⟩
    have y_NoSuch : XF K mg xa "NoSuch" "value" := ⟨PySem.W.mg_of X G aC7, xfB_ok xf7, nf7⟩
    have y_TooMany : XF K mg xa "TooMany" "most" := ⟨PySem.W.mg_of X G aC8, xfB_ok xf8, nf8⟩
    have h__law_told : ToldH K mg xf "_law_told" "deed" nLawTold sLawTold tvT (txT (kindsT xa)) (TTd (kindsT xa)) := ⟨t__law_told, fun X q hK hM g cdv => gv__law_told y_BadTape y_BadMap y_BadCode y_BadPoint y_BadPaper y_BadText y_BadNumber y_NoSuch y_TooMany exk one X q hK hM g cdv, ttd_ok hxk⟩
    have L__law_refused_right : LamH K mg base xf.T "_law_refused_right.<locals>.<lambda>" cm25 PT25 := lamH_mk (tb (cm25, PT25) (by simp)) (by rw [hT]; exact ndT) (by rw [hT]; simp)
    have L__law_boxes_right : LamH K mg base xf.T "_law_boxes_right.<locals>.<lambda>" cm33 PT33 := lamH_mk (tb (cm33, PT33) (by simp)) (by rw [hT]; exact ndT) (by rw [hT]; simp)
    have c__law_draw := c__law_draw (P := l.prog) (w := w) (base := base) t__law_draw
    have c__law_digit := c__law_digit (P := l.prog) (w := w) (base := base) (xf := xf) t__law_digit t__law_mixed B
    have c__law_ratio := c__law_ratio (P := l.prog) (w := w) (base := base) (xf := xf) t__law_ratio B 
    have c__law_tape := c__law_tape (P := l.prog) (w := w) (base := base) (xf := xf) t__law_tape B c__law_digit c__law_ratio
    have c_is_whole := c_is_whole (P := l.prog) (w := w) (base := base) (xf := xf) t_is_whole B 
    have c_is_fraction := c_is_fraction (P := l.prog) (w := w) (base := base) (xf := xf) t_is_fraction B c_is_whole g_MOST_NUMBER m_gcd
    have c_wrong_row := c_wrong_row (P := l.prog) (w := w) (base := base) (xf := xf) t_wrong_row B c_is_fraction c_is_whole g_PAIR_KINDS
    have c_wrong_tape := c_wrong_tape (P := l.prog) (w := w) (base := base) (xf := xf) t_wrong_tape B c_is_whole c_wrong_row g_MOST_INPUTS g_MOST_ROWS g_MOST_OUTS
    have c_need_tape := c_need_tape (P := l.prog) (w := w) (base := base) (xf := xf) (xa := xa) t_need_tape B c_wrong_tape x_BadTape
    have c_own_uses := c_own_uses (P := l.prog) (w := w) (base := base) (xf := xf) t_own_uses B 
    have c_own_lives := c_own_lives (P := l.prog) (w := w) (base := base) (xf := xf) t_own_lives B c_own_uses
    have c_live_at := c_live_at (P := l.prog) (w := w) (base := base) (xf := xf) (xa := xa) t_live_at B c_need_tape c_is_whole c_own_lives x_BadNumber
    have c_own_loads := c_own_loads (P := l.prog) (w := w) (base := base) (xf := xf) t_own_loads B c_own_lives
    have c_do_overlap := c_do_overlap (P := l.prog) (w := w) (base := base) (xf := xf) t_do_overlap B 
    have c_own_first_boxes := c_own_first_boxes (P := l.prog) (w := w) (base := base) (xf := xf) t_own_first_boxes B c_own_lives c_do_overlap
    have c_box_paper := c_box_paper (P := l.prog) (w := w) (base := base) (xf := xf) (xa := xa) t_box_paper B c_need_tape c_own_loads c_own_first_boxes
    have c_first_boxes := c_first_boxes (P := l.prog) (w := w) (base := base) (xf := xf) (xa := xa) t_first_boxes B c_need_tape c_own_first_boxes
    have c_peak_of := c_peak_of (P := l.prog) (w := w) (base := base) (xf := xf) (xa := xa) t_peak_of B c_need_tape c_own_loads
    have c_loads_of := c_loads_of (P := l.prog) (w := w) (base := base) (xf := xf) (xa := xa) t_loads_of B c_need_tape c_own_loads
    have c_lives_of := c_lives_of (P := l.prog) (w := w) (base := base) (xf := xf) (xa := xa) t_lives_of B c_need_tape c_own_lives
    have c_wrong_boxes := c_wrong_boxes (P := l.prog) (w := w) (base := base) (xf := xf) t_wrong_boxes B c_is_whole c_own_lives c_do_overlap g_MOST_BOX
    have c_need_boxes := c_need_boxes (P := l.prog) (w := w) (base := base) (xf := xf) (xa := xa) t_need_boxes B c_need_tape c_wrong_boxes x_BadMap
    have c_check_boxes := c_check_boxes (P := l.prog) (w := w) (base := base) (xf := xf) (xa := xa) t_check_boxes B c_need_tape c_wrong_boxes c_is_whole c_own_loads x_BadPaper
    have c__law_refused_right := c__law_refused_right (P := l.prog) (w := w) (base := base) (xf := xf) (xa := xa) t__law_refused_right L__law_refused_right B c_live_at c_box_paper c_first_boxes c_peak_of c_loads_of c_lives_of c_need_boxes c_check_boxes h__law_told
    have c__law_parts := c__law_parts (P := l.prog) (w := w) (base := base) (xf := xf) t__law_parts B 
    have c__law_lives := c__law_lives (P := l.prog) (w := w) (base := base) (xf := xf) t__law_lives B c__law_parts
    have c__law_boxes := c__law_boxes (P := l.prog) (w := w) (base := base) (xf := xf) t__law_boxes B c__law_lives
    have c__law_loads := c__law_loads (P := l.prog) (w := w) (base := base) (xf := xf) t__law_loads B c__law_lives
    have c__law_drawn_boxes := c__law_drawn_boxes (P := l.prog) (w := w) (base := base) (xf := xf) t__law_drawn_boxes B c__law_lives c__law_digit
    have c__law_wrong := c__law_wrong (P := l.prog) (w := w) (base := base) (xf := xf) t__law_wrong B c__law_lives
    have c__law_due := c__law_due (P := l.prog) (w := w) (base := base) (xf := xf) t__law_due B c__law_wrong c__law_loads
    have c__law_boxes_right := c__law_boxes_right (P := l.prog) (w := w) (base := base) (xf := xf) (xa := xa) t__law_boxes_right L__law_boxes_right B c__law_boxes c__law_loads c_first_boxes c__law_digit c__law_drawn_boxes c_box_paper c_check_boxes c__law_due c__law_wrong c_need_boxes t_first_boxes t_box_paper t_check_boxes t_need_boxes h__law_told
    have c__law_lives_right := c__law_lives_right (P := l.prog) (w := w) (base := base) (xf := xf) (xa := xa) t__law_lives_right B c__law_loads c__law_lives c_peak_of c_loads_of c_lives_of c_live_at t_peak_of t_loads_of t_lives_of t_live_at
    rw [← hT]
    exact ok_law (P := l.prog) (w := w) (base := base) (xf := xf) (xa := xa) F B c__law_draw c__law_tape c__law_digit c__law_refused_right c__law_boxes_right c__law_lives_right c_peak_of c_first_boxes c_loads_of
end K81
open PySem PySem.W PyProof.Rows
set_option maxHeartbeats 0 in
theorem PySem.Challenge.cw_allslopes_k81_whole_lives_and_boxes_holds : PySem.Challenge.rw_allslopes_k81_whole_lives_and_boxes.Holds := by
  w_on; o_law; k_head; (case hw => w_witness2)
  k_fill
  refine DL.end_walk (l := PySem.Challenge.rw_allslopes_k81_whole_lives_and_boxes) (n := 63) (k := 10) (x := "script") rfl (by decide) rfl ⟨rfl, by decide, by decide⟩ (fun w h Y => PySem.W.km_in_of Y) ?F
  case F =>
    intro w mg fa h Y KX G hmg
    have hT := km_tabs_of Y
    refine' K81.all_mk KX G hmg ?S0 ?S1 ?S2 ?S3 ?aC0 ?xf0 ?nf0 ?aC1 ?xf1 ?nf1 ?aC2 ?xf2 ?nf2 ?aC3 ?xf3 ?nf3 ?aC4 ?xf4 ?nf4 ?aC5 ?xf5 ?nf5 ?aC6 ?xf6 ?nf6 ?aC7 ?xf7 ?nf7 ?aC8 ?xf8 ?nf8 ?nd ?exm ?xL0 ?sa0 ?ga0 ?gg0 ?st0 ?ca0 ?kC0 ?iI0 ?tI0 ?lI0 ?cI0 ?kI0 ?lT0 ?xL6 ?sa6 ?ga6 ?gg6 ?st6 ?ca6 ?kC6 ?iI6 ?tI6 ?lI6 ?cI6 ?kI6 ?lT6 ?xL1 ?sa1 ?ga1 ?gg1 ?st1 ?ca1 ?kC1 ?iI1 ?tI1 ?lI1 ?cI1 ?kI1 ?lT1 ?xL4 ?sa4 ?ga4 ?gg4 ?st4 ?ca4 ?kC4 ?iI4 ?tI4 ?lI4 ?cI4 ?kI4 ?lT4 ?g_MOST_NUMBER ?g_PAIR_KINDS ?l_PAIR_KINDS ?g_MOST_INPUTS ?g_MOST_ROWS ?g_MOST_OUTS ?g_MOST_BOX ?a0 ?l0 ?c0 ?k0 ?a1 ?l1 ?c1 ?k1 ?a2 ?l2 ?c2 ?k2 ?a3 ?l3 ?c3 ?k3 ?a4 ?l4 ?c4 ?k4 ?a5 ?l5 ?c5 ?k5 ?a6 ?l6 ?c6 ?k6 ?a7 ?l7 ?c7 ?k7 ?a8 ?l8 ?c8 ?k8 ?a9 ?l9 ?c9 ?k9 ?a10 ?l10 ?c10 ?k10 ?a11 ?l11 ?c11 ?k11 ?a12 ?l12 ?c12 ?k12 ?a13 ?l13 ?c13 ?k13 ?a14 ?l14 ?c14 ?k14 ?a15 ?l15 ?c15 ?k15 ?a16 ?l16 ?c16 ?k16 ?a17 ?l17 ?c17 ?k17 ?a18 ?l18 ?c18 ?k18 ?a19 ?l19 ?c19 ?k19 ?a20 ?l20 ?c20 ?k20 ?a21 ?l21 ?c21 ?k21 ?a22 ?l22 ?c22 ?k22 ?a23 ?l23 ?c23 ?k23 ?a24 ?l24 ?c24 ?k24 ?a25 ?l25 ?c25 ?k25 ?a26 ?l26 ?c26 ?k26 ?a27 ?l27 ?c27 ?k27 ?a28 ?l28 ?c28 ?k28 ?a29 ?l29 ?c29 ?k29 ?a30 ?l30 ?c30 ?k30 ?a31 ?l31 ?c31 ?k31 ?a32 ?l32 ?c32 ?k32 ?a33 ?l33 ?c33 ?k33 ?a34 ?l34 ?c34 ?k34 ?a35 ?l35 ?c35 ?k35 ?lc25 ?vp25 ?hd25 ?nT25 ?em25 ?lc33 ?vp33 ?hd33 ?nT33 ?em33 ?ndT ?z_len ?z_isinstance ?z_int ?z_bool ?z_str ?z_list ?z_tuple ?z_range ?z_enumerate ?z_max ?z_min ?z_sum ?z_all ?z_abs ?z_repr ?z_set ?m_gcd
    (case S0 => k_is)
    (case S1 => k_is)
    (case S2 => k_is)
    (case S3 => k_is)
    (case aC0 => k_is)
    (case xf0 => kernel_rfl)
    (case nf0 => k_is)
    (case aC1 => k_is)
    (case xf1 => kernel_rfl)
    (case nf1 => k_is)
    (case aC2 => k_is)
    (case xf2 => kernel_rfl)
    (case nf2 => k_is)
    (case aC3 => k_is)
    (case xf3 => kernel_rfl)
    (case nf3 => k_is)
    (case aC4 => k_is)
    (case xf4 => kernel_rfl)
    (case nf4 => k_is)
    (case aC5 => k_is)
    (case xf5 => kernel_rfl)
    (case nf5 => k_is)
    (case aC6 => k_is)
    (case xf6 => kernel_rfl)
    (case nf6 => k_is)
    (case aC7 => k_is)
    (case xf7 => kernel_rfl)
    (case nf7 => k_is)
    (case aC8 => k_is)
    (case xf8 => kernel_rfl)
    (case nf8 => k_is)
    (case nd => decide)
    (case exm => kernel_rfl)
    (case xL0 => k_is)
    (case sa0 => k_is)
    (case ga0 => k_is)
    (case gg0 => k_is)
    (case st0 => k_is)
    (case ca0 => k_is)
    (case kC0 => k_is)
    (case iI0 => k_is)
    (case tI0 => k_is)
    (case lI0 => k_is)
    (case cI0 => k_is)
    (case kI0 => k_is)
    (case lT0 => k_is)
    (case xL6 => k_is)
    (case sa6 => k_is)
    (case ga6 => k_is)
    (case gg6 => k_is)
    (case st6 => k_is)
    (case ca6 => k_is)
    (case kC6 => k_is)
    (case iI6 => k_is)
    (case tI6 => k_is)
    (case lI6 => k_is)
    (case cI6 => k_is)
    (case kI6 => k_is)
    (case lT6 => k_is)
    (case xL1 => k_is)
    (case sa1 => k_is)
    (case ga1 => k_is)
    (case gg1 => k_is)
    (case st1 => k_is)
    (case ca1 => k_is)
    (case kC1 => k_is)
    (case iI1 => k_is)
    (case tI1 => k_is)
    (case lI1 => k_is)
    (case cI1 => k_is)
    (case kI1 => k_is)
    (case lT1 => k_is)
    (case xL4 => k_is)
    (case sa4 => k_is)
    (case ga4 => k_is)
    (case gg4 => k_is)
    (case st4 => k_is)
    (case ca4 => k_is)
    (case kC4 => k_is)
    (case iI4 => k_is)
    (case tI4 => k_is)
    (case lI4 => k_is)
    (case cI4 => k_is)
    (case kI4 => k_is)
    (case lT4 => k_is)
    (case g_MOST_NUMBER => k_is)
    (case g_PAIR_KINDS => k_is)
    (case l_PAIR_KINDS => k_is)
    (case g_MOST_INPUTS => k_is)
    (case g_MOST_ROWS => k_is)
    (case g_MOST_OUTS => k_is)
    (case g_MOST_BOX => k_is)
    (case a0 => k_is)
    (case l0 => k_is)
    (case c0 => k_is)
    (case k0 => k_is)
    (case a1 => k_is)
    (case l1 => k_is)
    (case c1 => k_is)
    (case k1 => k_is)
    (case a2 => k_is)
    (case l2 => k_is)
    (case c2 => k_is)
    (case k2 => k_is)
    (case a3 => k_is)
    (case l3 => k_is)
    (case c3 => k_is)
    (case k3 => k_is)
    (case a4 => k_is)
    (case l4 => k_is)
    (case c4 => k_is)
    (case k4 => k_is)
    (case a5 => k_is)
    (case l5 => k_is)
    (case c5 => k_is)
    (case k5 => k_is)
    (case a6 => k_is)
    (case l6 => k_is)
    (case c6 => k_is)
    (case k6 => k_is)
    (case a7 => k_is)
    (case l7 => k_is)
    (case c7 => k_is)
    (case k7 => k_is)
    (case a8 => k_is)
    (case l8 => k_is)
    (case c8 => k_is)
    (case k8 => k_is)
    (case a9 => k_is)
    (case l9 => k_is)
    (case c9 => k_is)
    (case k9 => k_is)
    (case a10 => k_is)
    (case l10 => k_is)
    (case c10 => k_is)
    (case k10 => k_is)
    (case a11 => k_is)
    (case l11 => k_is)
    (case c11 => k_is)
    (case k11 => k_is)
    (case a12 => k_is)
    (case l12 => k_is)
    (case c12 => k_is)
    (case k12 => k_is)
    (case a13 => k_is)
    (case l13 => k_is)
    (case c13 => k_is)
    (case k13 => k_is)
    (case a14 => k_is)
    (case l14 => k_is)
    (case c14 => k_is)
    (case k14 => k_is)
    (case a15 => k_is)
    (case l15 => k_is)
    (case c15 => k_is)
    (case k15 => k_is)
    (case a16 => k_is)
    (case l16 => k_is)
    (case c16 => k_is)
    (case k16 => k_is)
    (case a17 => k_is)
    (case l17 => k_is)
    (case c17 => k_is)
    (case k17 => k_is)
    (case a18 => k_is)
    (case l18 => k_is)
    (case c18 => k_is)
    (case k18 => k_is)
    (case a19 => k_is)
    (case l19 => k_is)
    (case c19 => k_is)
    (case k19 => k_is)
    (case a20 => k_is)
    (case l20 => k_is)
    (case c20 => k_is)
    (case k20 => k_is)
    (case a21 => k_is)
    (case l21 => k_is)
    (case c21 => k_is)
    (case k21 => k_is)
    (case a22 => k_is)
    (case l22 => k_is)
    (case c22 => k_is)
    (case k22 => k_is)
    (case a23 => k_is)
    (case l23 => k_is)
    (case c23 => k_is)
    (case k23 => k_is)
    (case a24 => k_is)
    (case l24 => k_is)
    (case c24 => k_is)
    (case k24 => k_is)
    (case a25 => k_is)
    (case l25 => k_is)
    (case c25 => k_is)
    (case k25 => k_is)
    (case a26 => k_is)
    (case l26 => k_is)
    (case c26 => k_is)
    (case k26 => k_is)
    (case a27 => k_is)
    (case l27 => k_is)
    (case c27 => k_is)
    (case k27 => k_is)
    (case a28 => k_is)
    (case l28 => k_is)
    (case c28 => k_is)
    (case k28 => k_is)
    (case a29 => k_is)
    (case l29 => k_is)
    (case c29 => k_is)
    (case k29 => k_is)
    (case a30 => k_is)
    (case l30 => k_is)
    (case c30 => k_is)
    (case k30 => k_is)
    (case a31 => k_is)
    (case l31 => k_is)
    (case c31 => k_is)
    (case k31 => k_is)
    (case a32 => k_is)
    (case l32 => k_is)
    (case c32 => k_is)
    (case k32 => k_is)
    (case a33 => k_is)
    (case l33 => k_is)
    (case c33 => k_is)
    (case k33 => k_is)
    (case a34 => k_is)
    (case l34 => k_is)
    (case c34 => k_is)
    (case k34 => k_is)
    (case a35 => k_is)
    (case l35 => k_is)
    (case c35 => k_is)
    (case k35 => k_is)
    (case lc25 => k_is)
    (case vp25 => rfl)
    (case hd25 => kernel_rfl)
    (case nT25 => kernel_rfl)
    (case em25 => exact hT _ (by k_mem))
    (case lc33 => k_is)
    (case vp33 => rfl)
    (case hd33 => kernel_rfl)
    (case nT33 => kernel_rfl)
    (case em33 => exact hT _ (by k_mem))
    (case ndT => decide)
    (case z_len => k_is)
    (case z_isinstance => k_is)
    (case z_int => k_is)
    (case z_bool => k_is)
    (case z_str => k_is)
    (case z_list => k_is)
    (case z_tuple => k_is)
    (case z_range => k_is)
    (case z_enumerate => k_is)
    (case z_max => k_is)
    (case z_min => k_is)
    (case z_sum => k_is)
    (case z_all => k_is)
    (case z_abs => k_is)
    (case z_repr => k_is)
    (case z_set => k_is)
    (case m_gcd => k_is)
#print axioms PySem.Challenge.cw_allslopes_k81_whole_lives_and_boxes_holds
