import PyProof.Rows.All
import Wide.All
import OpenK.AllK
import Wide.FinOn
import HandS.ForMost
import HandS.ForExc
import HandS.EndBits
import HandS.IsInst
import HandS.Deep
import HandS.Wide
import HandS.WideBits
import HandS.TupAny
import HandS.Zip
import HandS.Strs
import KE.IntBitsLaws
import HandS.Conv
import HandS.Style
import HandS.Flow
import HandS.TupMul
import PyProof.ReprRoads
import HandS.ExcIs
import HandS.TryOnly
import PyProof.EnumMake
import PyProof.Draws
import PyProof.Rows.RuleDivmod
import PyProof.Rows.FactsN_divmod
import PyProof.ReprLen
import PySem.Challenge.RW_emberlane_k23_alone_refused
set_option Elab.async false
set_option linter.all false
set_option maxRecDepth 100000
set_option maxHeartbeats 4000000
namespace EB
open PySem L2

/-- plain data -/
inductive D where
  | non | bl (b : Bool) | int (i : Int) | str (x : Str) | tup (ds : List D) | lst (ds : List D)
  | dct (ks : List Key) (ds : List D) | ins (c : Str) (fs : List Str) (ds : List D)

/-- how a slot holds its value: nothing known, shared, borrowed from a slot, an owned list, an owned dict, an owned object -/
inductive Sh where
  | u | s | b (i : Nat) | l (e : Sh) | d (e : Sh) | o (c : Str) (fs : List Str) (es : List Sh)

inductive Er where
  | stuck | fuel | exc (c : Str)
abbrev R := Except Er
abbrev stuck {α : Type} : R α := .error .stuck

structure Bd where
  K : PySem.W.Frag
  mg : Str → Option Value

/-- a list that may be read: tracked, locked, or one of the module's -/
def SL (K : PySem.W.Frag) (H : Hp) (a : Addr) (xs : List V) : Prop :=
  Rd H a (.lst xs) ∨ ∃ (its : List Value) (n : Nat), K.lookup a = some { cls := .type "list", data := .seq its.toArray n } ∧ its.length ≤ sizeLine ∧ Vals xs its
theorem SL.of {K : PySem.W.Frag} {H : Hp} {a : Addr} {xs : List V} (h : H a = some (.lst xs)) : SL K H a xs := .inl (.inl h)
theorem SL.sq {K : PySem.W.Frag} {H : Hp} {a : Addr} {xs : List V} (h : SL K H a xs) : SqL K H a xs := by
  rcases h with h | ⟨its, n, hk, hz, r⟩
  · exact .inl h
  · exact .inr ⟨_, its.toArray, n, hk, rfl, rfl, rfl, by simpa using hz, r⟩

/-- a tuple whose one object is known -/
def TQ (K : PySem.W.Frag) (H : Hp) (a : Addr) (xs : List V) : Prop :=
  (∃ o : Obj, H a = some (.frz o (.tup xs)) ∧ o.cls = .type "tuple" ∧ o.dict = none) ∨ ∃ (o : Obj) (its : Array Value) (n : Nat), K.lookup a = some o ∧ o.cls = .type "tuple" ∧ o.dict = none ∧ o.data = .seq its n ∧ its.size ≤ sizeLine ∧ Vals xs its.toList
theorem TQ.sqt {K : PySem.W.Frag} {H : Hp} {a : Addr} {xs : List V} (h : TQ K H a xs) : SqT K H a xs := by
  rcases h with ⟨o, h, _⟩ | ⟨o, its, n, h1, h2, _, h3, h4, h5⟩
  · exact .inl (.inr ⟨o, h⟩)
  · exact .inr ⟨o, its, n, h1, h2, h3, h4, h5⟩
/-- an exception of the class cls, caught -/
def ExT (cls : Value) (a : Addr) : HO := .ext fun h => ∃ (oe : Obj) (vs : Array Value), h.get? a = some oe ∧ Zc cls none oe ∧ oe.data = .fields vs
/-- the mark of an exception's data -/
def exMark : List Str := ["!"]
mutual
inductive Rep (B : Bd) (G : Hp) : V → D → Prop where
  | exc {a C : Addr} {c : Str} : B.mg c = some (.ref C) → G a = some (ExT (.ref C) a) → Rep B G (.ref a) (.ins c exMark [])
  | non : Rep B G .non .non
  | bl (b : Bool) : Rep B G (.bl b) (.bl b)
  | int (i : Int) : Rep B G (.int i) (.int i)
  | str (x : Str) : Rep B G (.str x) (.str x)
  | tup {a : Addr} {vs : List V} {ds : List D} : TQ B.K G a vs → Reps B G vs ds → Rep B G (.ref a) (.tup ds)
  | lst {a : Addr} {vs : List V} {ds : List D} : SL B.K G a vs → Reps B G vs ds → Rep B G (.ref a) (.lst ds)
  | dct {a : Addr} {kvs : List (Key × V)} {ks : List Key} {ds : List D} : G a = some (.dK kvs) → kvs.map (·.1) = ks → Reps B G (kvs.map (·.2)) ds → Rep B G (.ref a) (.dct ks ds)
  | ins {a C dx : Addr} {kvs : List (Str × V)} {c : Str} {fs : List Str} {ds : List D} : B.mg c = some (.ref C) → G a = some (.ins C dx kvs) → kvs.map (·.1) = fs → Reps B G (kvs.map (·.2)) ds → Rep B G (.ref a) (.ins c fs ds)
inductive Reps (B : Bd) (G : Hp) : List V → List D → Prop where
  | nil : Reps B G [] []
  | cons {v : V} {d : D} {vs : List V} {ds : List D} : Rep B G v d → Reps B G vs ds → Reps B G (v :: vs) (d :: ds)
end

abbrev Ex (H H' : Hp) : Prop := ∀ a o, H a = some o → H' a = some o
theorem Ex.refl (H : Hp) : Ex H H := fun _ _ h => h
theorem Ex.trans {H H1 H2 : Hp} (a : Ex H H1) (b : Ex H1 H2) : Ex H H2 := fun x o h => b x o (a x o h)
theorem Ex.new {H : Hp} {p : Addr} {o : HO} (h : H p = none) : Ex H (upd H p o) := fun a u e => by
  rw [upd_ne (ne_of_none e h)]
  exact e
theorem Ex.rd {H H' : Hp} (e : Ex H H') {a : Addr} {u : HO} (h : Rd H a u) : Rd H' a u := by
  rcases h with h | ⟨o, h⟩
  · exact .inl (e _ _ h)
  · exact .inr ⟨o, e _ _ h⟩
theorem Ex.sql {K : PySem.W.Frag} {H H' : Hp} (e : Ex H H') {a : Addr} {xs : List V} (h : SqL K H a xs) : SqL K H' a xs := by
  rcases h with h | h
  · exact .inl (e.rd h)
  · exact .inr h
theorem Ex.sl {K : PySem.W.Frag} {H H' : Hp} (e : Ex H H') {a : Addr} {xs : List V} (h : SL K H a xs) : SL K H' a xs := by
  rcases h with h | h
  · exact .inl (e.rd h)
  · exact .inr h
theorem Ex.tq {K : PySem.W.Frag} {H H' : Hp} (e : Ex H H') {a : Addr} {xs : List V} (h : TQ K H a xs) : TQ K H' a xs := by
  rcases h with ⟨o, h, h2⟩ | h
  · exact .inl ⟨o, e _ _ h, h2⟩
  · exact .inr h
theorem Ex.sqt {K : PySem.W.Frag} {H H' : Hp} (e : Ex H H') {a : Addr} {xs : List V} (h : SqT K H a xs) : SqT K H' a xs := by
  rcases h with h | h
  · exact .inl (e.rd h)
  · exact .inr h

variable {B : Bd} {G G' G1 G2 H H' H1 H2 : Hp}

mutual
theorem Rep.mono (e : Ex G G') : ∀ {v : V} {d : D}, Rep B G v d → Rep B G' v d
  | _, _, .non => .non
  | _, _, .bl b => .bl b
  | _, _, .int i => .int i
  | _, _, .str x => .str x
  | _, _, .tup h r => .tup (e.tq h) (Reps.mono e r)
  | _, _, .lst h r => .lst (e.sl h) (Reps.mono e r)
  | _, _, .dct h k r => .dct (e _ _ h) k (Reps.mono e r)
  | _, _, .ins m h k r => .ins m (e _ _ h) k (Reps.mono e r)
  | _, _, .exc m h => .exc m (e _ _ h)
theorem Reps.mono (e : Ex G G') : ∀ {vs : List V} {ds : List D}, Reps B G vs ds → Reps B G' vs ds
  | _, _, .nil => .nil
  | _, _, .cons h r => .cons (Rep.mono e h) (Reps.mono e r)
end
theorem Reps.length : ∀ {vs : List V} {ds : List D}, Reps B G vs ds → vs.length = ds.length
  | _, _, .nil => rfl
  | _, _, .cons _ r => by simp [Reps.length r]
theorem Reps.append : ∀ {vs ws : List V} {ds es : List D}, Reps B G vs ds → Reps B G ws es → Reps B G (vs ++ ws) (ds ++ es)
  | _, _, _, _, .nil, r => r
  | _, _, _, _, .cons h q, r => .cons h (Reps.append q r)
theorem Reps.get : ∀ {vs : List V} {ds : List D} {i : Nat} {d : D}, Reps B G vs ds → ds[i]? = some d → ∃ v, vs[i]? = some v ∧ Rep B G v d
  | _, _, _, _, .nil, e => by simp at e
  | _, _, 0, _, .cons h _, e => by
    simp at e
    subst e
    exact ⟨_, rfl, h⟩
  | _, _, i + 1, _, .cons _ r, e => by
    obtain ⟨v, h1, h2⟩ := Reps.get (i := i) r (by simpa using e)
    exact ⟨v, by simpa using h1, h2⟩
theorem Reps.get' : ∀ {vs : List V} {ds : List D} {i : Nat} {v : V}, Reps B G vs ds → vs[i]? = some v → ∃ d, ds[i]? = some d ∧ Rep B G v d
  | _, _, _, _, .nil, e => by simp at e
  | _, _, 0, _, .cons h _, e => by
    simp at e
    subst e
    exact ⟨_, rfl, h⟩
  | _, _, i + 1, _, .cons _ r, e => by
    obtain ⟨v, h1, h2⟩ := Reps.get' (i := i) r (by simpa using e)
    exact ⟨v, by simpa using h1, h2⟩
theorem Reps.set : ∀ {vs : List V} {ds : List D} {v : V} {d : D} (i : Nat), Reps B G vs ds → Rep B G v d → Reps B G (vs.set i v) (ds.set i d)
  | _, _, _, _, _, .nil, _ => .nil
  | _, _, _, _, 0, .cons _ r, h => .cons h r
  | _, _, _, _, i + 1, .cons q r, h => .cons q (Reps.set i r h)
theorem Reps.take : ∀ {vs : List V} {ds : List D} (n : Nat), Reps B G vs ds → Reps B G (vs.take n) (ds.take n)
  | _, _, 0, _ => .nil
  | _, _, _ + 1, .nil => .nil
  | _, _, n + 1, .cons h r => .cons h (Reps.take n r)
theorem Reps.drop : ∀ {vs : List V} {ds : List D} (n : Nat), Reps B G vs ds → Reps B G (vs.drop n) (ds.drop n)
  | _, _, 0, r => r
  | _, _, _ + 1, .nil => .nil
  | _, _, n + 1, .cons _ r => Reps.drop n r
theorem Reps.eraseIdx : ∀ {vs : List V} {ds : List D} (i : Nat), Reps B G vs ds → Reps B G (vs.eraseIdx i) (ds.eraseIdx i)
  | _, _, _, .nil => .nil
  | _, _, 0, .cons _ r => r
  | _, _, i + 1, .cons h r => .cons h (Reps.eraseIdx i r)
theorem Reps.reverse {vs : List V} {ds : List D} (h : Reps B G vs ds) : Reps B G vs.reverse ds.reverse := by
  induction ds generalizing vs with
  | nil => cases h; exact .nil
  | cons d ds ih =>
    cases h with
    | cons h r =>
      rw [List.reverse_cons, List.reverse_cons]
      exact (ih r).append (.cons h .nil)
theorem Reps.rep {vs : List V} {ds : List D} (h : Reps B G vs ds) : ∀ k : Nat, Reps B G (List.replicate k vs).flatten (List.replicate k ds).flatten
  | 0 => .nil
  | k + 1 => by
    rw [List.replicate_succ, List.replicate_succ, List.flatten_cons, List.flatten_cons]
    exact h.append (Reps.rep h k)

/-! ### owned things -/
inductive Owns (P : List Addr → Option V → D → Prop) : List (List Addr) → List V → List D → Prop where
  | nil : Owns P [] [] []
  | cons {f : List Addr} {v : V} {d : D} {fs : List (List Addr)} {vs : List V} {ds : List D} : P f (some v) d → Owns P fs vs ds → Owns P (f :: fs) (v :: vs) (d :: ds)

mutual
def Own (B : Bd) (G H : Hp) : Sh → List Addr → Option V → D → Prop
  | .u, fp, _, _ => fp = []
  | .s, fp, v, d => fp = [] ∧ ∃ w, v = some w ∧ Rep B G w d
  | .b _, _, _, _ => False
  | .l e, fp, v, d => ∃ (a : Addr) (vs : List V) (ds : List D) (fps : List (List Addr)), v = some (.ref a) ∧ d = .lst ds ∧ H a = some (.lst vs) ∧ fp = a :: fps.flatten ∧ Owns (Own B G H e) fps vs ds
  | .d e, fp, v, d => ∃ (a : Addr) (kvs : List (Key × V)) (ks : List Key) (ds : List D) (fps : List (List Addr)), v = some (.ref a) ∧ d = .dct ks ds ∧ H a = some (.dK kvs) ∧ kvs.map (·.1) = ks ∧ fp = a :: fps.flatten ∧
      Owns (Own B G H e) fps (kvs.map (·.2)) ds
  | .o c fs es, fp, v, d => ∃ (a C dx : Addr) (kvs : List (Str × V)) (ds : List D) (fps : List (List Addr)), v = some (.ref a) ∧ d = .ins c fs ds ∧ B.mg c = some (.ref C) ∧ H a = some (.ins C dx kvs) ∧ kvs.map (·.1) = fs ∧ fp = a :: fps.flatten ∧
      OwnL B G H es fps (kvs.map fun p => some p.2) ds
def OwnL (B : Bd) (G H : Hp) : List Sh → List (List Addr) → List (Option V) → List D → Prop
  | [], fps, vs, ds => fps = [] ∧ vs = [] ∧ ds = []
  | e :: es, fps, vs, ds => ∃ f fr v vr d dr, fps = f :: fr ∧ vs = v :: vr ∧ ds = d :: dr ∧ Own B G H e f v d ∧ OwnL B G H es fr vr dr
end

theorem Owns.imp {P P' : List Addr → Option V → D → Prop} : ∀ {fs : List (List Addr)} {vs : List V} {ds : List D}, Owns P fs vs ds → (∀ f ∈ fs, ∀ v d, P f v d → P' f v d) → Owns P' fs vs ds
  | _, _, _, .nil, _ => .nil
  | _, _, _, .cons h r, k => .cons (k _ List.mem_cons_self _ _ h) (Owns.imp r fun f hf => k f (List.mem_cons_of_mem _ hf))

mutual
theorem Own.mono (g : Ex G G') : ∀ {sh : Sh} {fp : List Addr} {v : Option V} {d : D}, (∀ a ∈ fp, ∀ o, H a = some o → H' a = some o) → Own B G H sh fp v d → Own B G' H' sh fp v d
  | .u, _, _, _, _, h => by
    simp only [Own] at h ⊢
    exact h
  | .s, _, _, _, _, h => by
    simp only [Own] at h ⊢
    obtain ⟨h, w, e, r⟩ := h
    exact ⟨h, w, e, r.mono g⟩
  | .b _, _, _, _, _, h => by
    simp only [Own] at h
  | .l e, fp, v, d, k, h => by
    simp only [Own] at h ⊢
    obtain ⟨a, vs, ds, fps, hv, hd, ha, hf, ho⟩ := h
    subst hf
    refine ⟨a, vs, ds, fps, hv, hd, k a List.mem_cons_self _ ha, rfl, ho.imp fun f hf v d q => Own.mono g (fun b hb o e => k b (List.mem_cons_of_mem _ (List.mem_flatten.mpr ⟨f, hf, hb⟩)) o e) q⟩
  | .d e, fp, v, d, k, h => by
    simp only [Own] at h ⊢
    obtain ⟨a, kvs, ks, ds, fps, hv, hd, ha, hk, hf, ho⟩ := h
    subst hf
    refine ⟨a, kvs, ks, ds, fps, hv, hd, k a List.mem_cons_self _ ha, hk, rfl, ho.imp fun f hf v d q => Own.mono g (fun b hb o e => k b (List.mem_cons_of_mem _ (List.mem_flatten.mpr ⟨f, hf, hb⟩)) o e) q⟩
  | .o c fs es, fp, v, d, k, h => by
    simp only [Own] at h ⊢
    obtain ⟨a, C, dx, kvs, ds, fps, hv, hd, hm, ha, hk, hf, ho⟩ := h
    subst hf
    exact ⟨a, C, dx, kvs, ds, fps, hv, hd, hm, k a List.mem_cons_self _ ha, hk, rfl, OwnL.mono g (fun b hb o e => k b (List.mem_cons_of_mem _ hb) o e) ho⟩
theorem OwnL.mono (g : Ex G G') : ∀ {es : List Sh} {fps : List (List Addr)} {vs : List (Option V)} {ds : List D}, (∀ a ∈ fps.flatten, ∀ o, H a = some o → H' a = some o) → OwnL B G H es fps vs ds → OwnL B G' H' es fps vs ds
  | [], _, _, _, _, h => by
    simp only [OwnL] at h ⊢
    exact h
  | e :: es, _, _, _, k, h => by
    simp only [OwnL] at h ⊢
    obtain ⟨f, fr, v, vr, d, dr, rfl, rfl, rfl, h1, h2⟩ := h
    exact ⟨f, fr, v, vr, d, dr, rfl, rfl, rfl, Own.mono g (fun b hb o e => k b (by simp [hb]) o e) h1, OwnL.mono g (fun b hb o e => k b (by rw [List.flatten_cons]; exact List.mem_append_right _ hb) o e) h2⟩
end

mutual
/-- nothing is unknown within -/
def Sh.full : Sh → Bool
  | .u => false
  | .s => true
  | .b _ => false
  | .l e => e.full
  | .d e => e.full
  | .o _ _ es => Sh.fulls es
def Sh.fulls : List Sh → Bool
  | [] => true
  | e :: es => e.full && Sh.fulls es
end
theorem Owns.reps : ∀ {P : List Addr → Option V → D → Prop} {fs : List (List Addr)} {vs : List V} {ds : List D}, Owns P fs vs ds → (∀ f ∈ fs, ∀ v d, P f v d → ∃ w, v = some w ∧ Rep B G w d) → Reps B G vs ds
  | _, _, _, _, .nil, _ => .nil
  | _, _, _, _, .cons h r, k => by
    obtain ⟨w, e, q⟩ := k _ List.mem_cons_self _ _ h
    cases e
    exact .cons q (Owns.reps r fun f hf => k f (List.mem_cons_of_mem _ hf))
theorem vals_some : ∀ (kvs : List (Str × V)), (kvs.map fun p => some p.2) = (kvs.map (·.2)).map some := fun kvs => by simp

mutual
theorem Own.rep (g : Ex G G') : ∀ {sh : Sh} {fp : List Addr} {v : Option V} {d : D}, sh.full = true → (∀ a ∈ fp, ∀ o, H a = some o → G' a = some o) → Own B G H sh fp v d → ∃ w, v = some w ∧ Rep B G' w d
  | .u, _, _, _, f, _, _ => by simp [Sh.full] at f
  | .s, _, _, _, _, _, h => by
    simp only [Own] at h
    obtain ⟨_, w, e, r⟩ := h
    exact ⟨w, e, r.mono g⟩
  | .b _, _, _, _, f, _, _ => by simp [Sh.full] at f
  | .l e, fp, v, d, f, k, h => by
    simp only [Own] at h
    simp only [Sh.full] at f
    obtain ⟨a, vs, ds, fps, hv, hd, ha, hf, ho⟩ := h
    subst hf hd
    refine ⟨_, hv, .lst (SL.of (k a List.mem_cons_self _ ha)) (ho.reps fun x hx v d q => Own.rep g f (fun b hb o e => k b (List.mem_cons_of_mem _ (List.mem_flatten.mpr ⟨x, hx, hb⟩)) o e) q)⟩
  | .d e, fp, v, d, f, k, h => by
    simp only [Own] at h
    simp only [Sh.full] at f
    obtain ⟨a, kvs, ks, ds, fps, hv, hd, ha, hk, hf, ho⟩ := h
    subst hf hd
    refine ⟨_, hv, .dct (k a List.mem_cons_self _ ha) hk (ho.reps fun x hx v d q => Own.rep g f (fun b hb o e => k b (List.mem_cons_of_mem _ (List.mem_flatten.mpr ⟨x, hx, hb⟩)) o e) q)⟩
  | .o c fs es, fp, v, d, f, k, h => by
    simp only [Own] at h
    simp only [Sh.full] at f
    obtain ⟨a, C, dx, kvs, ds, fps, hv, hd, hm, ha, hk, hf, ho⟩ := h
    subst hf hd
    refine ⟨_, hv, .ins hm (k a List.mem_cons_self _ ha) hk (OwnL.reps g f (fun b hb o e => k b (List.mem_cons_of_mem _ hb) o e) (by rw [← vals_some]; exact ho))⟩
theorem OwnL.reps (g : Ex G G') : ∀ {es : List Sh} {fps : List (List Addr)} {vs : List V} {ds : List D}, Sh.fulls es = true → (∀ a ∈ fps.flatten, ∀ o, H a = some o → G' a = some o) → OwnL B G H es fps (vs.map some) ds → Reps B G' vs ds
  | [], _, vs, _, _, _, h => by
    simp only [OwnL] at h
    obtain ⟨_, h1, h2⟩ := h
    have : vs = [] := by simpa using h1
    subst this h2
    exact .nil
  | e :: es, _, vs, _, f, k, h => by
    simp only [OwnL] at h
    simp only [Sh.fulls, Bool.and_eq_true] at f
    obtain ⟨x, fr, v, vr, d, dr, rfl, hv, rfl, h1, h2⟩ := h
    cases vs with
    | nil => simp at hv
    | cons w ws =>
      simp only [List.map_cons, List.cons.injEq] at hv
      obtain ⟨rfl, rfl⟩ := hv
      obtain ⟨w', e', q⟩ := Own.rep g f.1 (fun b hb o e => k b (by simp [hb]) o e) h1
      cases e'
      exact .cons q (OwnL.reps g f.2 (fun b hb o e => k b (by rw [List.flatten_cons]; exact List.mem_append_right _ hb) o e) h2)
end
theorem Owns.dom {P : List Addr → Option V → D → Prop} : ∀ {fs : List (List Addr)} {vs : List V} {ds : List D}, Owns P fs vs ds → (∀ f ∈ fs, ∀ v d, P f v d → ∀ a ∈ f, H a ≠ none) → ∀ a ∈ fs.flatten, H a ≠ none
  | _, _, _, .nil, _, a, h => by simp at h
  | _, _, _, .cons h r, k, a, ha => by
    rw [List.flatten_cons] at ha
    rcases List.mem_append.mp ha with z | z
    · exact k _ List.mem_cons_self _ _ h a z
    · exact Owns.dom r (fun f hf => k f (List.mem_cons_of_mem _ hf)) a z
mutual
/-- what is owned stands in the heap -/
theorem Own.dom : ∀ {sh : Sh} {fp : List Addr} {v : Option V} {d : D}, Own B G H sh fp v d → ∀ a ∈ fp, H a ≠ none
  | .u, _, _, _, h => by
    simp only [Own] at h
    subst h
    simp
  | .s, _, _, _, h => by
    simp only [Own] at h
    obtain ⟨rfl, _⟩ := h
    simp
  | .b _, _, _, _, h => by simp only [Own] at h
  | .l e, fp, v, d, h => by
    simp only [Own] at h
    obtain ⟨a, vs, ds, fps, hv, hd, ha, rfl, ho⟩ := h
    intro b hb
    rcases List.mem_cons.mp hb with z | z
    · subst z
      rw [ha]
      simp
    · exact ho.dom (fun f hf v d q => Own.dom q) b z
  | .d e, fp, v, d, h => by
    simp only [Own] at h
    obtain ⟨a, kvs, ks, ds, fps, hv, hd, ha, hk, rfl, ho⟩ := h
    intro b hb
    rcases List.mem_cons.mp hb with z | z
    · subst z
      rw [ha]
      simp
    · exact ho.dom (fun f hf v d q => Own.dom q) b z
  | .o c fs es, fp, v, d, h => by
    simp only [Own] at h
    obtain ⟨a, C, dx, kvs, ds, fps, hv, hd, hm, ha, hk, rfl, ho⟩ := h
    intro b hb
    rcases List.mem_cons.mp hb with z | z
    · subst z
      rw [ha]
      simp
    · exact OwnL.dom ho b z
theorem OwnL.dom : ∀ {es : List Sh} {fps : List (List Addr)} {vs : List (Option V)} {ds : List D}, OwnL B G H es fps vs ds → ∀ a ∈ fps.flatten, H a ≠ none
  | [], _, _, _, h => by
    simp only [OwnL] at h
    obtain ⟨rfl, _⟩ := h
    simp
  | e :: es, _, _, _, h => by
    simp only [OwnL] at h
    obtain ⟨f, fr, v, vr, d, dr, rfl, rfl, rfl, h1, h2⟩ := h
    intro b hb
    rw [List.flatten_cons] at hb
    rcases List.mem_append.mp hb with z | z
    · exact Own.dom h1 b z
    · exact OwnL.dom h2 b z
end
end EB
namespace EB
open PySem L2
variable {B : Bd} {G G' G1 G2 G3 H H' H1 H2 H3 : Hp} {A A1 A2 A3 F : List Addr}

/-- the state of the names: shapes, footprints, values, data -/
structure At (B : Bd) (G H : Hp) (Ga : List Sh) (fps : List (List Addr)) (sg : St) (rho : List D) : Prop where
  own : OwnL B G H Ga fps sg rho
  nd : fps.flatten.Nodup
  gn : ∀ a ∈ fps.flatten, G a = none
  ex : Ex G H

/-- from G, H with what is owned at A to G1, H1 with A1 -/
structure Step (G H : Hp) (A : List Addr) (G1 H1 : Hp) (A1 : List Addr) : Prop where
  g : Ex G G1
  gn : ∀ a, G a = none → G1 a ≠ none → a ∈ A ∨ H a = none
  keep : ∀ a, a ∉ A → ∀ o, H a = some o → H1 a = some o
  dom : ∀ a, H a ≠ none → H1 a ≠ none
  foot : ∀ a ∈ A1, a ∈ A ∨ H a = none

theorem Step.refl (G H : Hp) (A : List Addr) : Step G H A G H A := ⟨Ex.refl G, fun _ h h' => absurd h h', fun _ _ _ h => h, fun _ h => h, fun _ h => .inl h⟩
theorem Step.trans (s : Step G H A G1 H1 A1) (t : Step G1 H1 A1 G2 H2 A2) : Step G H A G2 H2 A2 where
  g := s.g.trans t.g
  gn := fun a h h2 => by
    by_cases h1 : G1 a = none
    · rcases t.gn a h1 h2 with z | z
      · exact s.foot a z
      · right
        cases e : H a with
        | none => rfl
        | some o => exact absurd z (s.dom a (by rw [e]; simp))
    · exact s.gn a h h1
  keep := fun a ha o e => t.keep a (fun z => by
    rcases s.foot a z with q | q
    · exact ha q
    · rw [e] at q; cases q) o (s.keep a ha o e)
  dom := fun a h => t.dom a (s.dom a h)
  foot := fun a h => by
    rcases t.foot a h with z | z
    · exact s.foot a z
    · right
      cases e : H a with
      | none => rfl
      | some o => exact absurd z (s.dom a (by rw [e]; simp))
theorem Step.sub (s : Step G H A G1 H1 A1) (h : ∀ a ∈ A2, a ∈ A1) : Step G H A G1 H1 A2 := { s with foot := fun a ha => s.foot a (h a ha) }
theorem Step.wide (s : Step G H A G1 H1 A1) (h : ∀ a ∈ A, a ∈ A2) : Step G H A2 G1 H1 A1 where
  g := s.g
  gn := fun a x y => (s.gn a x y).imp (h a) id
  keep := fun a ha o e => s.keep a (fun z => ha (h a z)) o e
  dom := s.dom
  foot := fun a x => (s.foot a x).imp (h a) id
/-- what is not the step's own stays -/
theorem Step.stays (s : Step G H A G1 H1 A1) {a : Addr} (ha : a ∉ A) (hd : H a ≠ none) (hg : G a = none) : G1 a = none ∧ a ∉ A1 := by
  refine ⟨?_, fun z => ?_⟩
  · cases e : G1 a with
    | none => rfl
    | some o =>
      rcases s.gn a hg (by rw [e]; simp) with z | z
      · exact absurd z ha
      · exact absurd z hd
  · rcases s.foot a z with q | q
    · exact ha q
    · exact hd q
/-- with a frame -/
theorem Step.frame (s : Step G H A G1 H1 A1) (F : List Addr) : Step G H (A ++ F) G1 H1 (A1 ++ F) where
  g := s.g
  gn := fun a x y => (s.gn a x y).imp (List.mem_append_left _) id
  keep := fun a ha o e => s.keep a (fun z => ha (List.mem_append_left _ z)) o e
  dom := s.dom
  foot := fun a x => by
    rcases List.mem_append.mp x with z | z
    · exact (s.foot a z).imp (List.mem_append_left _) id
    · exact .inl (List.mem_append_right _ z)

/-- a result: borrowed from a slot, or owned (a shared one owns nothing) -/
def Val (B : Bd) (G H : Hp) (sg : St) : Sh → List Addr → V → D → Prop
  | .b i, fp, v, d => fp = [] ∧ d = .non ∧ sg[i]? = some (some v)
  | sh, fp, v, d => Own B G H sh fp (some v) d
theorem Val.own {sg : St} {sh : Sh} {fp : List Addr} {v : V} {d : D} (h : Own B G H sh fp (some v) d) : Val B G H sg sh fp v d := by
  cases sh with
  | b i => simp only [Own] at h
  | _ => exact h
theorem Val.s {sg : St} {v : V} {d : D} (h : Rep B G v d) : Val B G H sg .s [] v d := by
  show Own B G H .s [] (some v) d
  simp only [Own]
  exact ⟨trivial, v, rfl, h⟩
theorem Val.of_s {sg : St} {fp : List Addr} {v : V} {d : D} (h : Val B G H sg .s fp v d) : fp = [] ∧ Rep B G v d := by
  have h : Own B G H .s fp (some v) d := h
  simp only [Own] at h
  obtain ⟨e, w, e2, r⟩ := h
  cases e2
  exact ⟨e, r⟩
theorem Val.mono {sg : St} {sh : Sh} {fp : List Addr} {v : V} {d : D} (g : Ex G G') (k : ∀ a ∈ fp, ∀ o, H a = some o → H' a = some o) (h : Val B G H sg sh fp v d) : Val B G' H' sg sh fp v d := by
  cases sh with
  | b i => exact h
  | _ => exact Own.mono g k h
theorem Val.dom {sg : St} {sh : Sh} {fp : List Addr} {v : V} {d : D} (h : Val B G H sg sh fp v d) : ∀ a ∈ fp, H a ≠ none := by
  cases sh with
  | b i =>
    obtain ⟨rfl, _⟩ := h
    simp
  | _ => exact Own.dom h

/-- what an expression leaves -/
structure Res (B : Bd) (Ga : List Sh) (sh : Sh) (sg : St) (rho : List D) (d : D) (G H : Hp) (A : List Addr) (G1 H1 : Hp) (fps : List (List Addr)) (fp : List Addr) (v : V) : Prop where
  st : Step G H A G1 H1 (fps.flatten ++ fp)
  av : At B G1 H1 Ga fps sg rho
  vl : Val B G1 H1 sg sh fp v d
  nd : (fps.flatten ++ fp).Nodup
  gn : ∀ a ∈ fp, G1 a = none

/-- what is wanted behind: of a result, of an error that is raised -/
def Post (B : Bd) (W : WX) (Ga : List Sh) (sh : Sh) (sg : St) (G H : Hp) (A : List Addr) (Q : VK) : R (D × List D) → Prop
  | .ok (d, rho) => ∀ G1 H1 fps fp v, Res B Ga sh sg rho d G H A G1 H1 fps fp v → Q v H1
  | .error (.exc c) => ∀ C G1 H1 A1, B.mg c = some (.ref C) → Step G H A G1 H1 A1 → Ex G1 H1 → W (.ref C) none sg H1
  | .error _ => False

abbrev Fx := List D → R (D × List D)
def Sem (B : Bd) (W : WX) (te : TE) (Ga Ga' : List Sh) (sh : Sh) (f : Fx) : Prop :=
  ∀ (G H : Hp) (fps : List (List Addr)) (sg : St) (rho : List D) (Q : VK), At B G H Ga fps sg rho → Post B W Ga' sh sg G H fps.flatten Q (f rho) → te sg H Q

/-- going on from a later place -/
theorem Post.later {W : WX} {Ga : List Sh} {sh : Sh} {sg : St} {Q : VK} {r : R (D × List D)} (s : Step G H A G1 H1 A1) (h : Post B W Ga sh sg G H A Q r) : Post B W Ga sh sg G1 H1 A1 Q r := by
  unfold Post at h ⊢
  split at h
  · exact fun G2 H2 fps fp v r => h G2 H2 fps fp v ⟨s.trans r.st, r.av, r.vl, r.nd, r.gn⟩
  · exact fun C G2 H2 A2 m st ex => h C G2 H2 A2 m (s.trans st) ex
  · exact h

/-! ### flat results -/
theorem At.same (a : At B G H Ga fps sg rho) (st : Step G H F G1 H1 F1) (k : ∀ x ∈ fps.flatten, x ∉ F) (ex : Ex G1 H1) : At B G1 H1 Ga fps sg rho where
  own := OwnL.mono st.g (fun x hx o e => st.keep x (k x hx) o e) a.own
  nd := a.nd
  gn := fun x hx => (st.stays (k x hx) (OwnL.dom a.own x hx) (a.gn x hx)).1
  ex := ex
/-- nothing has changed -/
theorem Res.pure {Ga : List Sh} {fps : List (List Addr)} {sg : St} {rho : List D} {v : V} {d : D} (a : At B G H Ga fps sg rho) (r : Rep B G v d) : Res B Ga .s sg rho d G H fps.flatten G H fps [] v :=
  ⟨(Step.refl G H _).sub (by simp), a, .s r, by simpa using a.nd, by simp⟩
/-- a new object, shared from now on -/
theorem Step.new {p : Addr} {o : HO} (hp : H p = none) (hx : Ex G H) : Step G H A (upd G p o) (upd H p o) A where
  g := Ex.new (by
    cases e : G p with
    | none => rfl
    | some u => rw [hx p u e] at hp; cases hp)
  gn := fun a h h' => by
    by_cases e : a = p
    · subst e; exact .inr hp
    · rw [upd_ne e] at h'; exact absurd h h'
  keep := fun a _ u e => by rw [upd_ne (ne_of_none e hp)]; exact e
  dom := fun a h => by
    by_cases e : a = p
    · subst e; rw [upd_same]; simp
    · rw [upd_ne e]; exact h
  foot := fun a h => .inl h
theorem Ex.upd {p : Addr} {o : HO} (hx : Ex G H) : Ex (L2.upd G p o) (L2.upd H p o) := fun a u e => by
  by_cases z : a = p
  · subst z
    rw [upd_same] at e ⊢
    exact e
  · rw [upd_ne z] at e ⊢
    exact hx a u e
theorem Ex.free {p : Addr} (hx : Ex G H) (hp : H p = none) : G p = none := by
  cases e : G p with
  | none => rfl
  | some u => rw [hx p u e] at hp; cases hp
theorem Res.new {Ga : List Sh} {fps : List (List Addr)} {sg : St} {rho : List D} {p : Addr} {o : HO} {d : D} (a : At B G H Ga fps sg rho) (hp : H p = none) (r : Rep B (upd G p o) (.ref p) d) :
    Res B Ga .s sg rho d G H fps.flatten (upd G p o) (upd H p o) fps [] (.ref p) := by
  have st : Step G H [] (upd G p o) (upd H p o) [] := Step.new hp a.ex
  have st2 : Step G H fps.flatten (upd G p o) (upd H p o) fps.flatten := Step.new hp a.ex
  exact ⟨st2.sub (by simp), a.same st (by simp) a.ex.upd, .s r, by simpa using a.nd, by simp⟩
/-- a new object of one's own, the items shared -/
theorem Step.newOwn {p : Addr} {o : HO} (hp : H p = none) : Step G H A G (upd H p o) (A ++ [p]) where
  g := Ex.refl G
  gn := fun a h h' => absurd h h'
  keep := fun a _ u e => by rw [upd_ne (ne_of_none e hp)]; exact e
  dom := fun a h => by
    by_cases e : a = p
    · subst e; rw [upd_same]; simp
    · rw [upd_ne e]; exact h
  foot := fun a h => by
    rcases List.mem_append.mp h with z | z
    · exact .inl z
    · right
      rw [List.mem_singleton.mp z]
      exact hp
theorem Ex.upd_r {p : Addr} {o : HO} (hx : Ex G H) (hp : G p = none) : Ex G (L2.upd H p o) := fun a u e => by
  rw [upd_ne (ne_of_none e hp)]
  exact hx a u e
theorem Res.newOwn {Ga : List Sh} {fps : List (List Addr)} {sg : St} {rho : List D} {p : Addr} {o : HO} {d : D} {sh : Sh} (a : At B G H Ga fps sg rho) (hp : H p = none) (r : Own B G (upd H p o) sh [p] (some (.ref p)) d) :
    Res B Ga sh sg rho d G H fps.flatten G (upd H p o) fps [p] (.ref p) := by
  have st : Step G H [] G (upd H p o) ([] ++ [p]) := Step.newOwn hp
  have np : p ∉ fps.flatten := fun z => absurd hp (OwnL.dom a.own p z)
  refine ⟨Step.newOwn hp, a.same st (by simp) (a.ex.upd_r (a.ex.free hp)), .own r, ?_, ?_⟩
  · rw [List.nodup_append]
    refine ⟨a.nd, by simp, ?_⟩
    intro x hx y hy e
    rw [List.mem_singleton.mp hy] at e
    exact np (e ▸ hx)
  · intro x hx
    rw [List.mem_singleton.mp hx]
    exact a.ex.free hp

/-! ### freezing -/
def merge (G H : Hp) (fp : List Addr) : Hp := fun a => if a ∈ fp then H a else G a
theorem merge_in {fp : List Addr} {a : Addr} (h : a ∈ fp) : merge G H fp a = H a := if_pos h
theorem merge_out {fp : List Addr} {a : Addr} (h : a ∉ fp) : merge G H fp a = G a := if_neg h
theorem merge_ex {fp : List Addr} (hx : Ex G H) : Ex G (merge G H fp) ∧ Ex (merge G H fp) H := by
  refine ⟨fun a o e => ?_, fun a o e => ?_⟩
  · by_cases h : a ∈ fp
    · rw [merge_in h]; exact hx a o e
    · rw [merge_out h]; exact e
  · by_cases h : a ∈ fp
    · rw [merge_in h] at e; exact e
    · rw [merge_out h] at e; exact hx a o e
/-- a result of one's own is shared from now on -/
theorem Res.freeze {Ga : List Sh} {sh : Sh} {sg : St} {rho : List D} {d : D} {fps : List (List Addr)} {fp : List Addr} {v : V} (f : sh.full = true) (r : Res B Ga sh sg rho d G H A G1 H1 fps fp v) :
    ∃ G2, Res B Ga .s sg rho d G H A G2 H1 fps [] v := by
  have ⟨m1, m2⟩ := merge_ex (fp := fp) r.av.ex
  have hv : Own B G1 H1 sh fp (some v) d := by
    cases sh with
    | b i => simp [Sh.full] at f
    | _ => exact r.vl
  obtain ⟨w, e, q⟩ := Own.rep (G' := merge G1 H1 fp) m1 f (fun a ha o e => by rw [merge_in ha]; exact e) hv
  cases e
  have disj : ∀ a ∈ fps.flatten, a ∉ fp := fun a ha hb => (List.nodup_append.mp r.nd).2.2 a ha a hb rfl
  have st : Step G1 H1 (fps.flatten ++ fp) (merge G1 H1 fp) H1 (fps.flatten) := by
    refine ⟨m1, fun a h h' => ?_, fun _ _ _ e => e, fun _ h => h, fun a h => .inl (List.mem_append_left _ h)⟩
    by_cases z : a ∈ fp
    · exact .inl (List.mem_append_right _ z)
    · rw [merge_out z] at h'; exact absurd h h'
  refine ⟨merge G1 H1 fp, (r.st.trans st).sub (by simp), ⟨OwnL.mono m1 (fun _ _ _ e => e) r.av.own, r.av.nd, fun a ha => ?_, m2⟩, .s q, by simpa using r.av.nd, by simp⟩
  rw [merge_out (disj a ha)]
  exact r.av.gn a ha
/-- a shape that may be given up -/
def Sh.down : Sh → Sh → Bool
  | sh, .s => sh.full
  | _, .u => true
  | _, _ => false

theorem Sem.freeze {W : WX} {te : TE} {Ga Ga' : List Sh} {sh : Sh} {f : Fx} (hs : Sem B W te Ga Ga' sh f) (hf : sh.full = true) : Sem B W te Ga Ga' .s f := fun G H fps sg rho Q a h => by
  refine hs G H fps sg rho Q a ?_
  unfold Post at h ⊢
  split at h
  · intro G1 H1 fps fp v r
    obtain ⟨G2, r2⟩ := r.freeze hf
    exact h G2 H1 fps [] v r2
  · exact h
  · exact h

/-! ### one after another -/
def Sh.flat : Sh → Bool
  | .s => true
  | .b _ => true
  | _ => false
theorem Val.flat {sg : St} {sh : Sh} {fp : List Addr} {v : V} {d : D} (f : sh.flat = true) (h : Val B G H sg sh fp v d) : fp = [] := by
  cases sh with
  | s => exact h.of_s.1
  | b i => exact h.1
  | _ => simp [Sh.flat] at f

abbrev Fr {α : Type} (f : List D → R α) := f

/-- a first part, then the rest -/
def fUn (fa : Fx) (g : D → Fx) : Fx := fun rho => match fa rho with
  | .ok (d, rho1) => g d rho1
  | .error e => .error e
def fBin (fa fb : Fx) (g : D → D → Fx) : Fx := fUn fa fun d => fUn fb (g d)
theorem Post.err {W : WX} {Ga Ga' : List Sh} {sh sh' : Sh} {sg : St} {Q Q' : VK} {e : Er} (h : Post B W Ga sh sg G H A Q (.error e)) : Post B W Ga' sh' sg G H A Q' (.error e) := by
  cases e with
  | exc c => exact h
  | stuck => exact h
  | fuel => exact h
theorem Post.un {W : WX} {Ga Ga1 : List Sh} {sa sh : Sh} {sg : St} {Q : VK} {rho : List D} {fa : Fx} {g : D → Fx} {K : VK} (fl : sa.flat = true) (h : Post B W Ga sh sg G H A Q (fUn fa g rho))
    (k : ∀ (G1 H1 : Hp) (fps : List (List Addr)) (d : D) (rho1 : List D) (v : V), At B G1 H1 Ga1 fps sg rho1 → Val B G1 H1 sg sa [] v d → Step G H A G1 H1 fps.flatten → Post B W Ga sh sg G1 H1 fps.flatten Q (g d rho1) → K v H1) :
    Post B W Ga1 sa sg G H A K (fa rho) := by
  unfold fUn at h
  cases e : fa rho with
  | ok p =>
    obtain ⟨d, rho1⟩ := p
    rw [e] at h
    intro G1 H1 fps1 fp1 v1 r1
    have e1 := r1.vl.flat fl
    subst e1
    have st := r1.st
    rw [List.append_nil] at st
    exact k G1 H1 fps1 d rho1 v1 r1.av r1.vl st (h.later st)
  | error er =>
    rw [e] at h
    exact h.err
theorem Sem.un {W : WX} {ta : TE} {Ga Ga1 Ga2 : List Sh} {sa sh : Sh} {fa : Fx} {g : D → Fx} {r : V → Hp → VK → Prop} (ha : Sem B W ta Ga Ga1 sa fa) (fl : sa.flat = true)
    (hr : ∀ (G H : Hp) (fps : List (List Addr)) (sg : St) (rho : List D) (d : D) (v : V) (Q : VK), At B G H Ga1 fps sg rho → Val B G H sg sa [] v d → Post B W Ga2 sh sg G H fps.flatten Q (g d rho) → r v H Q) :
    Sem B W (fun sg H Q => ta sg H fun x H1 => r x H1 Q) Ga Ga2 sh (fUn fa g) := fun G H fps sg rho Q a h =>
  ha G H fps sg rho _ a (h.un fl fun G1 H1 fps1 d rho1 v a1 v1 st h1 => hr G1 H1 fps1 sg rho1 d v Q a1 v1 h1)
theorem Sem.bin {W : WX} {ta tb : TE} {Ga Ga1 Ga2 Ga3 : List Sh} {sa sb sh : Sh} {fa fb : Fx} {g : D → D → Fx} {r : V → V → Hp → VK → Prop} (ha : Sem B W ta Ga Ga1 sa fa) (hb : Sem B W tb Ga1 Ga2 sb fb) (fl : sa.flat = true) (fl2 : sb.flat = true)
    (hr : ∀ (G H : Hp) (fps : List (List Addr)) (sg : St) (rho : List D) (d e : D) (v w : V) (Q : VK), At B G H Ga2 fps sg rho → Val B G H sg sa [] v d → Val B G H sg sb [] w e → Post B W Ga3 sh sg G H fps.flatten Q (g d e rho) → r v w H Q) :
    Sem B W (fun sg H Q => ta sg H fun x H1 => tb sg H1 fun y H2 => r x y H2 Q) Ga Ga3 sh (fBin fa fb g) := fun G H fps sg rho Q a h =>
  ha G H fps sg rho _ a (h.un fl fun G1 H1 fps1 d rho1 v a1 v1 st h1 =>
    hb G1 H1 fps1 sg rho1 _ a1 (h1.un fl2 fun G2 H2 fps2 d2 rho2 v2 a2 w2 st2 h2 => hr G2 H2 fps2 sg rho2 d d2 v v2 Q a2 (v1.mono st2.g (by simp)) w2 h2))
end EB
namespace EB
open PySem L2
variable {B : Bd} {G G' G1 G2 G3 H H' H1 H2 H3 : Hp} {A A1 A2 A3 F : List Addr}

/-! ### the names by places -/
theorem OwnL.get : ∀ {Ga : List Sh} {fps : List (List Addr)} {sg : St} {rho : List D} {i : Nat} {sh : Sh}, OwnL B G H Ga fps sg rho → Ga[i]? = some sh →
    ∃ fp v d, fps[i]? = some fp ∧ sg[i]? = some v ∧ rho[i]? = some d ∧ Own B G H sh fp v d
  | [], _, _, _, _, _, _, e => by simp at e
  | e :: es, _, _, _, 0, _, h, q => by
    simp only [OwnL] at h
    obtain ⟨f, fr, v, vr, d, dr, rfl, rfl, rfl, h1, h2⟩ := h
    simp at q
    subst q
    exact ⟨f, v, d, rfl, rfl, rfl, h1⟩
  | e :: es, _, _, _, i + 1, _, h, q => by
    simp only [OwnL] at h
    obtain ⟨f, fr, v, vr, d, dr, rfl, rfl, rfl, h1, h2⟩ := h
    simpa using OwnL.get (i := i) h2 (by simpa using q)
theorem OwnL.lens : ∀ {Ga : List Sh} {fps : List (List Addr)} {sg : St} {rho : List D}, OwnL B G H Ga fps sg rho → fps.length = Ga.length ∧ sg.length = Ga.length ∧ rho.length = Ga.length
  | [], _, _, _, h => by
    simp only [OwnL] at h
    obtain ⟨rfl, rfl, rfl⟩ := h
    simp
  | e :: es, _, _, _, h => by
    simp only [OwnL] at h
    obtain ⟨f, fr, v, vr, d, dr, rfl, rfl, rfl, h1, h2⟩ := h
    have := OwnL.lens h2
    simp [this.1, this.2.1, this.2.2]
theorem OwnL.set : ∀ {Ga : List Sh} {fps : List (List Addr)} {sg : St} {rho : List D} {i : Nat} {sh : Sh} {fp : List Addr} {v : Option V} {d : D}, OwnL B G H Ga fps sg rho → Own B G H sh fp v d →
    OwnL B G H (Ga.set i sh) (fps.set i fp) (sg.set i v) (rho.set i d)
  | [], _, _, _, i, _, _, _, _, h, q => by
    simp only [OwnL] at h
    obtain ⟨rfl, rfl, rfl⟩ := h
    simp only [List.set_nil, OwnL]
    simp
  | e :: es, _, _, _, 0, sh, fp, v, d, h, q => by
    simp only [OwnL] at h
    obtain ⟨f, fr, v', vr, d', dr, rfl, rfl, rfl, h1, h2⟩ := h
    simp only [List.set_cons_zero, OwnL]
    exact ⟨fp, fr, v, vr, d, dr, rfl, rfl, rfl, q, h2⟩
  | e :: es, _, _, _, i + 1, sh, fp, v, d, h, q => by
    simp only [OwnL] at h
    obtain ⟨f, fr, v', vr, d', dr, rfl, rfl, rfl, h1, h2⟩ := h
    simp only [List.set_cons_succ, OwnL]
    exact ⟨f, _, v', _, d', _, rfl, rfl, rfl, h1, OwnL.set h2 q⟩
/-- another heap, all but one place kept -/
theorem OwnL.put (g : Ex G G1) : ∀ {Ga : List Sh} {fps : List (List Addr)} {sg : St} {rho : List D} {i : Nat} {sh : Sh} {fp fp0 : List Addr} {v : Option V} {d : D}, OwnL B G H Ga fps sg rho → fps[i]? = some fp0 → fps.flatten.Nodup →
    (∀ a ∈ fps.flatten, a ∉ fp0 → ∀ o, H a = some o → H1 a = some o) → Own B G1 H1 sh fp v d → OwnL B G1 H1 (Ga.set i sh) (fps.set i fp) (sg.set i v) (rho.set i d)
  | [], _, _, _, i, _, _, _, _, _, h, e, _, _, _ => by
    simp only [OwnL] at h
    obtain ⟨rfl, rfl, rfl⟩ := h
    simp at e
  | e :: es, _, _, _, 0, sh, fp, fp0, v, d, h, e0, nd, k, q => by
    simp only [OwnL] at h
    obtain ⟨f, fr, v', vr, d', dr, rfl, rfl, rfl, h1, h2⟩ := h
    simp at e0
    subst e0
    rw [List.flatten_cons] at nd k
    simp only [List.set_cons_zero, OwnL]
    exact ⟨fp, fr, v, vr, d, dr, rfl, rfl, rfl, q, OwnL.mono g (fun a ha o e => k a (List.mem_append_right _ ha) (fun z => (List.nodup_append.mp nd).2.2 a z a ha rfl) o e) h2⟩
  | e :: es, _, _, _, i + 1, sh, fp, fp0, v, d, h, e0, nd, k, q => by
    simp only [OwnL] at h
    obtain ⟨f, fr, v', vr, d', dr, rfl, rfl, rfl, h1, h2⟩ := h
    rw [List.flatten_cons] at nd k
    have e0' : fr[i]? = some fp0 := by simpa using e0
    have hm : ∀ a ∈ fp0, a ∈ fr.flatten := fun a ha => List.mem_flatten.mpr ⟨fp0, List.mem_of_getElem? e0', ha⟩
    simp only [List.set_cons_succ, OwnL]
    exact ⟨f, _, v', _, d', _, rfl, rfl, rfl, Own.mono g (fun a ha o e => k a (List.mem_append_left _ ha) (fun z => (List.nodup_append.mp nd).2.2 a ha a (hm a z) rfl) o e) h1,
      OwnL.put g h2 e0' (List.nodup_append.mp nd).2.1 (fun a ha => k a (List.mem_append_right _ ha)) q⟩
theorem flat_set : ∀ {fps : List (List Addr)} {i : Nat} {fp fp0 : List Addr}, fps[i]? = some fp0 → fps.flatten.Nodup → fp.Nodup → (∀ a ∈ fp, a ∉ fp0 → a ∉ fps.flatten) → (fps.set i fp).flatten.Nodup ∧ ∀ a, a ∈ (fps.set i fp).flatten → a ∈ fp ∨ (a ∈ fps.flatten ∧ a ∉ fp0)
  | [], _, _, _, e, _, _, _ => by simp at e
  | f :: fr, 0, fp, fp0, e, nd, nd2, k => by
    simp at e
    subst e
    rw [List.flatten_cons] at nd k
    simp only [List.set_cons_zero, List.flatten_cons]
    obtain ⟨n1, n2, n3⟩ := List.nodup_append.mp nd
    refine ⟨List.nodup_append.mpr ⟨nd2, n2, ?_⟩, ?_⟩
    · intro a ha b hb e
      subst e
      by_cases z : a ∈ f
      · exact n3 a z a hb rfl
      · exact k a ha z (List.mem_append_right _ hb)
    · intro a ha
      rcases List.mem_append.mp ha with z | z
      · exact .inl z
      · exact .inr ⟨List.mem_append_right _ z, fun q => n3 a q a z rfl⟩
  | f :: fr, i + 1, fp, fp0, e, nd, nd2, k => by
    have e0 : fr[i]? = some fp0 := by simpa using e
    have hm : ∀ a ∈ fp0, a ∈ fr.flatten := fun a ha => List.mem_flatten.mpr ⟨fp0, List.mem_of_getElem? e0, ha⟩
    rw [List.flatten_cons] at nd k
    simp only [List.set_cons_succ, List.flatten_cons]
    obtain ⟨n1, n2, n3⟩ := List.nodup_append.mp nd
    obtain ⟨m1, m2⟩ := flat_set e0 n2 nd2 (fun a ha h z => k a ha h (List.mem_append_right _ z))
    refine ⟨List.nodup_append.mpr ⟨n1, m1, ?_⟩, ?_⟩
    · intro a ha b hb e
      subst e
      rcases m2 a hb with z | ⟨z, _⟩
      · by_cases q : a ∈ fp0
        · exact n3 a ha a (hm a q) rfl
        · exact k a z q (List.mem_append_left _ ha)
      · exact n3 a ha a z rfl
    · intro a ha
      rcases List.mem_append.mp ha with z | z
      · exact .inr ⟨List.mem_append_left _ z, fun q => n3 a z a (hm a q) rfl⟩
      · rcases m2 a z with q | ⟨q, q2⟩
        · exact .inl q
        · exact .inr ⟨List.mem_append_right _ q, q2⟩
/-- one place is put anew -/
theorem At.put {Ga : List Sh} {fps : List (List Addr)} {sg : St} {rho : List D} {i : Nat} {sh : Sh} {fp fp0 : List Addr} {v : Option V} {d : D} (a : At B G H Ga fps sg rho) (e : fps[i]? = some fp0) (g : Ex G G1)
    (k : ∀ x ∈ fps.flatten, x ∉ fp0 → ∀ o, H x = some o → H1 x = some o) (q : Own B G1 H1 sh fp v d) (nd : fp.Nodup) (new : ∀ x ∈ fp, x ∈ fp0 ∨ H x = none) (gn : ∀ x ∈ fp, G1 x = none) (gk : ∀ x ∈ fps.flatten, x ∉ fp0 → G1 x = none) (ex : Ex G1 H1) :
    At B G1 H1 (Ga.set i sh) (fps.set i fp) (sg.set i v) (rho.set i d) := by
  obtain ⟨m1, m2⟩ := flat_set e a.nd nd (fun x hx h z => by
    rcases new x hx with q | q
    · exact h q
    · exact OwnL.dom a.own x z q)
  refine ⟨OwnL.put g a.own e a.nd k q, m1, fun x hx => ?_, ex⟩
  rcases m2 x hx with z | ⟨z, z2⟩
  · exact gn x z
  · exact gk x z z2
theorem flat_mem {fps : List (List Addr)} {i : Nat} {fp : List Addr} (e : fps[i]? = some fp) {a : Addr} (h : a ∈ fp) : a ∈ fps.flatten := List.mem_flatten.mpr ⟨fp, List.mem_of_getElem? e, h⟩
theorem flat_set_sub {fps : List (List Addr)} {i : Nat} {fp : List Addr} : ∀ a ∈ (fps.set i fp).flatten, a ∈ fp ∨ a ∈ fps.flatten := fun a h => by
  obtain ⟨l, hl, ha⟩ := List.mem_flatten.mp h
  rcases List.mem_or_eq_of_mem_set hl with z | z
  · exact .inr (List.mem_flatten.mpr ⟨l, z, ha⟩)
  · exact .inl (z ▸ ha)
theorem set_same {α : Type} : ∀ {l : List α} {i : Nat} {x : α}, l[i]? = some x → l.set i x = l
  | [], _, _, h => by simp at h
  | y :: l, 0, x, h => by
    simp at h
    subst h
    rfl
  | y :: l, i + 1, x, h => by
    simp only [List.set_cons_succ]
    rw [set_same (by simpa using h)]

/-! ### data in plain operations -/
mutual
def D.py : D → Option PyData
  | .non => some .none
  | .bl b => some (.bool b)
  | .int i => some (.int i)
  | .str x => some (.str x)
  | .tup ds => (D.pys ds).map .tuple
  | .lst ds => (D.pys ds).map .list
  | .dct _ _ => none
  | .ins _ _ _ => none
def D.pys : List D → Option (List PyData)
  | [] => some []
  | d :: ds => match d.py, D.pys ds with
    | some p, some ps => some (p :: ps)
    | _, _ => none
end
mutual
theorem Rep.dp (x : Ex G H) : ∀ {v : V} {d : D} {p : PyData}, Rep B G v d → d.py = some p → Dp B.K H v p
  | _, _, _, .non, e => by
    simp only [D.py, Option.some.injEq] at e
    subst e
    exact .non
  | _, _, _, .bl b, e => by
    simp only [D.py, Option.some.injEq] at e
    subst e
    exact .bl b
  | _, _, _, .int b, e => by
    simp only [D.py, Option.some.injEq] at e
    subst e
    exact .int b
  | _, _, _, .str b, e => by
    simp only [D.py, Option.some.injEq] at e
    subst e
    exact .str b
  | _, _, _, .tup h r, e => by
    simp only [D.py, Option.map_eq_some_iff] at e
    obtain ⟨ps, e1, rfl⟩ := e
    exact .tup (x.sqt h.sqt) (Reps.dp x r e1)
  | _, _, _, .lst h r, e => by
    simp only [D.py, Option.map_eq_some_iff] at e
    obtain ⟨ps, e1, rfl⟩ := e
    exact .lst (x.sl h).sq (Reps.dp x r e1)
  | _, _, _, .dct _ _ _, e => by simp [D.py] at e
  | _, _, _, .ins _ _ _ _, e => by simp [D.py] at e
  | _, _, _, .exc _ _, e => by simp [D.py] at e
theorem Reps.dp (x : Ex G H) : ∀ {vs : List V} {ds : List D} {ps : List PyData}, Reps B G vs ds → D.pys ds = some ps → DpAll B.K H vs ps
  | _, _, _, .nil, e => by
    simp only [D.pys, Option.some.injEq] at e
    subst e
    exact .nil
  | _, _, _, .cons (d := d) (ds := ds) h r, e => by
    simp only [D.pys] at e
    cases e1 : d.py with
    | none => simp [e1] at e
    | some p =>
      cases e2 : D.pys ds with
      | none => simp [e1, e2] at e
      | some ps =>
        simp only [e1, e2, Option.some.injEq] at e
        subst e
        exact .cons (Rep.dp x h e1) (Reps.dp x r e2)
end
/-- == -/
def dEqB (x y : D) : Option Bool := match x.py, y.py with
  | some p, some q => if SeqAt.shaped p = true ∧ SeqAt.shaped q = true then some (PyData.eqv p q) else none
  | _, _ => none

/-! ### what an operand is -/
def res (sh : Sh) (d : D) (rho : List D) : D := match sh with
  | .b i => rho.getD i .non
  | _ => d
/-- borrowed things may be read here -/
def seen (Ga : List Sh) : Sh → Bool
  | .s => true
  | .b i => match Ga[i]? with
    | some sh => sh.full
    | none => false
  | _ => false
/-- .. their items are shared -/
def seen1 (Ga : List Sh) : Sh → Bool
  | .s => true
  | .b i => match Ga[i]? with
    | some .s => true
    | some (.l .s) => true
    | some (.d .s) => true
    | _ => false
  | _ => false
theorem getD_of {rho : List D} {i : Nat} {d : D} (h : rho[i]? = some d) : rho.getD i .non = d := by
  rw [List.getD_eq_getElem?_getD, h]
  rfl
/-- an operand as it may be read -/
theorem At.view {Ga : List Sh} {fps : List (List Addr)} {sg : St} {rho : List D} {sh : Sh} {v : V} {d : D} (a : At B G H Ga fps sg rho) (h : Val B G H sg sh [] v d) (s : seen Ga sh = true) : ∃ G1, Ex G G1 ∧ Ex G1 H ∧ Rep B G1 v (res sh d rho) := by
  cases sh with
  | s => exact ⟨G, Ex.refl G, a.ex, h.of_s.2⟩
  | b i =>
    obtain ⟨_, _, hv⟩ := h
    simp only [seen] at s
    split at s
    · rename_i sh0 e
      obtain ⟨fp, v0, d0, e1, e2, e3, o⟩ := OwnL.get a.own e
      rw [hv] at e2
      cases e2
      have ⟨m1, m2⟩ := merge_ex (fp := fp) a.ex
      obtain ⟨w, e4, r⟩ := Own.rep (G' := merge G H fp) m1 s (fun x hx o e => by rw [merge_in hx]; exact e) o
      cases e4
      refine ⟨merge G H fp, m1, m2, ?_⟩
      simp only [res]
      rw [getD_of e3]
      exact r
    · cases s
  | _ => simp [seen] at s
/-- .. a sequence, its items shared -/
inductive Seq (B : Bd) (G H : Hp) : V → D → List D → Prop where
  | lst {a : Addr} {vs : List V} {ds : List D} : SL B.K H a vs → Reps B G vs ds → Seq B G H (.ref a) (.lst ds) ds
  | tup {a : Addr} {vs : List V} {ds : List D} : SqT B.K H a vs → Reps B G vs ds → Seq B G H (.ref a) (.tup ds) ds
def D.seq : D → Option (List D)
  | .lst ds => some ds
  | .tup ds => some ds
  | _ => none
theorem Rep.seq {v : V} {d : D} {ds : List D} (x : Ex G H) (r : Rep B G v d) (e : d.seq = some ds) : Seq B G H v d ds := by
  cases r with
  | tup h r =>
    cases e
    exact .tup (x.sqt h.sqt) r
  | lst h r =>
    cases e
    exact .lst (x.sl h) r
  | _ => simp [D.seq] at e
theorem At.seq {Ga : List Sh} {fps : List (List Addr)} {sg : St} {rho : List D} {sh : Sh} {v : V} {d : D} {ds : List D} (a : At B G H Ga fps sg rho) (h : Val B G H sg sh [] v d) (s : seen1 Ga sh = true) (e : (res sh d rho).seq = some ds) : Seq B G H v (res sh d rho) ds := by
  cases sh with
  | s => exact h.of_s.2.seq a.ex e
  | b i =>
    obtain ⟨_, _, hv⟩ := h
    simp only [seen1] at s
    split at s
    · rename_i e0
      obtain ⟨fp, v0, d0, e1, e2, e3, o⟩ := OwnL.get a.own e0
      rw [hv] at e2
      cases e2
      simp only [res] at e ⊢
      rw [getD_of e3] at e ⊢
      simp only [Own] at o
      obtain ⟨_, w, e4, r⟩ := o
      cases e4
      exact r.seq a.ex e
    · rename_i e0
      obtain ⟨fp, v0, d0, e1, e2, e3, o⟩ := OwnL.get a.own e0
      rw [hv] at e2
      cases e2
      simp only [res] at e ⊢
      rw [getD_of e3] at e ⊢
      simp only [Own] at o
      obtain ⟨b, vs, ds', fps', e4, rfl, e5, _, ow⟩ := o
      cases e4
      cases e
      exact .lst (SL.of e5) (ow.reps fun f hf v d q => by
        have q : Own B G H .s f v d := q
        simp only [Own] at q
        exact q.2)
    · rename_i e0
      obtain ⟨fp, v0, d0, e1, e2, e3, o⟩ := OwnL.get a.own e0
      simp only [res] at e
      rw [getD_of e3] at e
      simp only [Own] at o
      obtain ⟨b, kvs, ks, ds', fps', e4, rfl, e5, _, ow⟩ := o
      simp only [D.seq] at e
      cases e
    · cases s
  | _ => simp [seen1] at s
end EB
namespace EB
open PySem L2
variable {B : Bd} {G G' G1 G2 G3 H H' H1 H2 H3 : Hp} {A A1 A2 A3 F : List Addr}

/-- a family of contexts that have the module, the names and the room in common -/
structure Cf (I : Type) where
  prog : Program
  w : World
  K : PySem.W.Frag
  mg : Str → Option Value
  base : Heap
  A : Around
  N : List Str
  calm : Bool
  s_0 : I → Shared
  H_0 : I → Hp
  env : I → Env
  outer : I → List Env
  stack : I → List Env
  ex : I → List Addr
  fn : I → Str → Bool
  pn : I → List (Addr × Obj)
  xe : I → Value → Shared → Prop
abbrev Cf.at {I : Type} (X : Cf I) (i : I) : Cx where
  prog := X.prog
  w := X.w
  K := X.K
  mg := X.mg
  base := X.base
  A := X.A
  N := X.N
  calm := X.calm
  s_0 := X.s_0 i
  H_0 := X.H_0 i
  env := X.env i
  outer := X.outer i
  stack := X.stack i
  ex := X.ex i
  fn := X.fn i
  pn := X.pn i
  xe := X.xe i
abbrev Cf.of (X : Cx) : Cf Unit where
  prog := X.prog
  w := X.w
  K := X.K
  mg := X.mg
  base := X.base
  A := X.A
  N := X.N
  calm := X.calm
  s_0 := fun _ => X.s_0
  H_0 := fun _ => X.H_0
  env := fun _ => X.env
  outer := fun _ => X.outer
  stack := fun _ => X.stack
  ex := fun _ => X.ex
  fn := fun _ => X.fn
  pn := fun _ => X.pn
  xe := fun _ => X.xe
abbrev bd {I : Type} (X : Cf I) : Bd := ⟨X.K, X.mg⟩
/-- an expression, its reading, its mirror -/
structure DE {I : Type} (X : Cf I) (W : WX) (te : TE) (Ga : List Sh) (e : Expr) (Ga' : List Sh) (sh : Sh) (f : Fx) : Prop where
  pe : ∀ ii, PE (X.at ii) e te
  sm : Sem (bd X) W te Ga Ga' sh f

/-! ### tests -/
abbrev Fb := List D → R (Bool × List D)
def PostT (B : Bd) (W : WX) (Ga : List Sh) (sg : St) (G H : Hp) (A : List Addr) (Q : Bool → Hp → Prop) : R (Bool × List D) → Prop
  | .ok (b, rho) => ∀ G1 H1 fps, Step G H A G1 H1 fps.flatten → At B G1 H1 Ga fps sg rho → Q b H1
  | .error (.exc c) => ∀ C G1 H1 A1, B.mg c = some (.ref C) → Step G H A G1 H1 A1 → Ex G1 H1 → W (.ref C) none sg H1
  | .error _ => False
theorem PostT.later {W : WX} {Ga : List Sh} {sg : St} {Q : Bool → Hp → Prop} {r : R (Bool × List D)} (s : Step G H A G1 H1 A1) (h : PostT B W Ga sg G H A Q r) : PostT B W Ga sg G1 H1 A1 Q r := by
  unfold PostT at h ⊢
  split at h
  · exact fun G2 H2 fps st a => h G2 H2 fps (s.trans st) a
  · exact fun C G2 H2 A2 m st ex => h C G2 H2 A2 m (s.trans st) ex
  · exact h
def SemT (B : Bd) (W : WX) (tt : TT) (Ga Ga' : List Sh) (f : Fb) : Prop :=
  ∀ (G H : Hp) (fps : List (List Addr)) (sg : St) (rho : List D) (Q : Bool → Hp → Prop), At B G H Ga fps sg rho → PostT B W Ga' sg G H fps.flatten Q (f rho) → tt sg H Q
structure DT {I : Type} (X : Cf I) (W : WX) (tt : TT) (Ga : List Sh) (e : Expr) (Ga' : List Sh) (f : Fb) : Prop where
  pe : ∀ ii, PT (X.at ii) e tt
  sm : SemT (bd X) W tt Ga Ga' f
/-- and, or -/
structure DW {I : Type} (X : Cf I) (W : WX) (tt : TT) (Ga : List Sh) (e : Expr) (Ga' : List Sh) (f : Fb) : Prop where
  pe : ∀ ii, PW (X.at ii) e tt
  sm : SemT (bd X) W tt Ga Ga' f

/-! ### argument lists -/
abbrev Fs := List D → R (List D × List D)
inductive ValL (B : Bd) (G H : Hp) (sg : St) : List Sh → List V → List D → Prop where
  | nil : ValL B G H sg [] [] []
  | cons {sh : Sh} {v : V} {d : D} {shs : List Sh} {vs : List V} {ds : List D} : Val B G H sg sh [] v d → ValL B G H sg shs vs ds → ValL B G H sg (sh :: shs) (v :: vs) (d :: ds)
theorem ValL.mono (g : Ex G G') {sg : St} : ∀ {shs : List Sh} {vs : List V} {ds : List D}, ValL B G H sg shs vs ds → ValL B G' H' sg shs vs ds
  | _, _, _, .nil => .nil
  | _, _, _, .cons h r => .cons (h.mono g (by simp)) (ValL.mono g r)
def PostA (B : Bd) (W : WX) (Ga : List Sh) (shs : List Sh) (sg : St) (G H : Hp) (A : List Addr) (Q : List V → Hp → Prop) : R (List D × List D) → Prop
  | .ok (ds, rho) => ∀ G1 H1 fps vs, Step G H A G1 H1 fps.flatten → At B G1 H1 Ga fps sg rho → ValL B G1 H1 sg shs vs ds → Q vs H1
  | .error (.exc c) => ∀ C G1 H1 A1, B.mg c = some (.ref C) → Step G H A G1 H1 A1 → Ex G1 H1 → W (.ref C) none sg H1
  | .error _ => False
theorem PostA.later {W : WX} {Ga shs : List Sh} {sg : St} {Q : List V → Hp → Prop} {r : R (List D × List D)} (s : Step G H A G1 H1 A1) (h : PostA B W Ga shs sg G H A Q r) : PostA B W Ga shs sg G1 H1 A1 Q r := by
  unfold PostA at h ⊢
  split at h
  · exact fun G2 H2 fps vs st a => h G2 H2 fps vs (s.trans st) a
  · exact fun C G2 H2 A2 m st ex => h C G2 H2 A2 m (s.trans st) ex
  · exact h
def SemA (B : Bd) (W : WX) (ta : TA) (Ga Ga' : List Sh) (shs : List Sh) (f : Fs) : Prop :=
  ∀ (G H : Hp) (fps : List (List Addr)) (sg : St) (rho : List D) (Q : List V → Hp → Prop), At B G H Ga fps sg rho → PostA B W Ga' shs sg G H fps.flatten Q (f rho) → ta sg H Q
structure DA {I : Type} (X : Cf I) (W : WX) (ta : TA) (Ga : List Sh) (es : List Expr) (Ga' : List Sh) (shs : List Sh) (f : Fs) : Prop where
  pe : ∀ ii, PA (X.at ii) es ta
  sm : SemA (bd X) W ta Ga Ga' shs f

def Er.is {α β : Type} (e : Er) : R α → R β := fun _ => .error e

/-! ### mirrors, put together -/
def fNil : Fs := fun rho => .ok ([], rho)
def fCons (fa : Fx) (fs : Fs) : Fs := fun rho => match fa rho with
  | .ok (d, rho1) => match fs rho1 with
    | .ok (ds, rho2) => .ok (d :: ds, rho2)
    | .error e => .error e
  | .error e => .error e
/-- behind the arguments -/
def fArgs (fs : Fs) (g : List D → Fx) : Fx := fun rho => match fs rho with
  | .ok (ds, rho1) => g ds rho1
  | .error e => .error e
def fTest (fa : Fx) (g : D → Fb) : Fb := fun rho => match fa rho with
  | .ok (d, rho1) => g d rho1
  | .error e => .error e
def fIfE (c : Fb) (fa fb : Fx) : Fx := fun rho => match c rho with
  | .ok (b, rho1) => if b then fa rho1 else fb rho1
  | .error e => .error e
def fAndT (c e : Fb) : Fb := fun rho => match c rho with
  | .ok (b, rho1) => if b then e rho1 else .ok (false, rho1)
  | .error x => .error x
def fOrT (c e : Fb) : Fb := fun rho => match c rho with
  | .ok (b, rho1) => if b then .ok (true, rho1) else e rho1
  | .error x => .error x
def fNotT (c : Fb) : Fb := fun rho => match c rho with
  | .ok (b, rho1) => .ok (!b, rho1)
  | .error x => .error x
def lift (r : R D) : Fx := fun rho => match r with
  | .ok d => .ok (d, rho)
  | .error e => .error e

/-! ### composition -/
theorem PostT.err {W : WX} {Ga Ga' : List Sh} {sg : St} {Q : Bool → Hp → Prop} {Q' : Bool → Hp → Prop} {e : Er} (h : PostT B W Ga sg G H A Q (.error e)) : PostT B W Ga' sg G H A Q' (.error e) := by
  cases e with
  | exc c => exact h
  | stuck => exact h
  | fuel => exact h
theorem PostT.un {W : WX} {Ga Ga1 : List Sh} {sa : Sh} {sg : St} {Q : Bool → Hp → Prop} {rho : List D} {fa : Fx} {g : D → Fb} {K : VK} (fl : sa.flat = true) (h : PostT B W Ga sg G H A Q (fTest fa g rho))
    (k : ∀ (G1 H1 : Hp) (fps : List (List Addr)) (d : D) (rho1 : List D) (v : V), At B G1 H1 Ga1 fps sg rho1 → Val B G1 H1 sg sa [] v d → Step G H A G1 H1 fps.flatten → PostT B W Ga sg G1 H1 fps.flatten Q (g d rho1) → K v H1) :
    Post B W Ga1 sa sg G H A K (fa rho) := by
  unfold fTest at h
  cases e : fa rho with
  | ok p =>
    obtain ⟨d, rho1⟩ := p
    rw [e] at h
    intro G1 H1 fps1 fp1 v1 r1
    have e1 := r1.vl.flat fl
    subst e1
    have st := r1.st
    rw [List.append_nil] at st
    exact k G1 H1 fps1 d rho1 v1 r1.av r1.vl st (h.later st)
  | error er =>
    rw [e] at h
    cases er with
    | exc c => exact h
    | stuck => exact h
    | fuel => exact h
/-- behind a test -/
theorem PostT.to {α : Type} {W : WX} {Ga : List Sh} {sg : St} {rho : List D} {c : Fb} {K : Bool → Hp → Prop} {P : Hp → Hp → List Addr → R α → Prop} {g : Bool → List D → R α}
    (lat : ∀ {G H : Hp} {A : List Addr} {G1 H1 : Hp} {A1 : List Addr} {r : R α}, Step G H A G1 H1 A1 → P G H A r → P G1 H1 A1 r)
    (er : ∀ {G H : Hp} {A : List Addr} {e : Er}, P G H A (.error e) → PostT B W Ga sg G H A K (.error e))
    (h : P G H A (match c rho with | .ok (b, rho1) => g b rho1 | .error e => .error e))
    (k : ∀ (G1 H1 : Hp) (fps : List (List Addr)) (b : Bool) (rho1 : List D), At B G1 H1 Ga fps sg rho1 → P G1 H1 fps.flatten (g b rho1) → K b H1) : PostT B W Ga sg G H A K (c rho) := by
  cases e : c rho with
  | ok p =>
    obtain ⟨b, rho1⟩ := p
    rw [e] at h
    exact fun G1 H1 fps st a => k G1 H1 fps b rho1 a (lat st h)
  | error x =>
    rw [e] at h
    exact er h
theorem Post.errT {W : WX} {Ga Ga' : List Sh} {sh : Sh} {sg : St} {Q : VK} {Q' : Bool → Hp → Prop} {e : Er} (h : Post B W Ga sh sg G H A Q (.error e)) : PostT B W Ga' sg G H A Q' (.error e) := by
  cases e with
  | exc c => exact h
  | stuck => exact h
  | fuel => exact h
theorem Post.errA {W : WX} {Ga Ga' shs : List Sh} {sh : Sh} {sg : St} {Q : VK} {Q' : List V → Hp → Prop} {e : Er} (h : Post B W Ga sh sg G H A Q (.error e)) : PostA B W Ga' shs sg G H A Q' (.error e) := by
  cases e with
  | exc c => exact h
  | stuck => exact h
  | fuel => exact h
theorem PostA.errE {W : WX} {Ga Ga' shs : List Sh} {sh : Sh} {sg : St} {Q : VK} {Q' : List V → Hp → Prop} {e : Er} (h : PostA B W Ga shs sg G H A Q' (.error e)) : Post B W Ga' sh sg G H A Q (.error e) := by
  cases e with
  | exc c => exact h
  | stuck => exact h
  | fuel => exact h
theorem PostA.errA {W : WX} {Ga Ga' shs shs' : List Sh} {sg : St} {Q Q' : List V → Hp → Prop} {e : Er} (h : PostA B W Ga shs sg G H A Q' (.error e)) : PostA B W Ga' shs' sg G H A Q (.error e) := by
  cases e with
  | exc c => exact h
  | stuck => exact h
  | fuel => exact h

section
variable {I : Type} {X : Cf I} {W : WX} {Ga Ga1 Ga2 Ga3 : List Sh} {sa sb sc sh : Sh} {fa fb fc : Fx} {a b c e : Expr} {ta tb tc te : TE} {pos : Pos}

/-! ### names, constants -/
def fVar (i : Nat) : Fx := fun rho => .ok (rho.getD i .non, rho)
def fBor : Fx := fun rho => .ok (.non, rho)
def fC (d : D) : Fx := fun rho => .ok (d, rho)
theorem sem_var {i : Nat} (hg : Ga[i]? = some .s) : Sem B W (tVar i) Ga Ga .s (fVar i) := fun G H fps sg rho Q a h => by
  obtain ⟨fp, v, d, e1, e2, e3, o⟩ := a.own.get hg
  simp only [Own] at o
  obtain ⟨_, w, rfl, r⟩ := o
  have h' : Post B W Ga .s sg G H fps.flatten Q (.ok (rho.getD i .non, rho)) := h
  rw [getD_of e3] at h'
  exact ⟨w, e2, h' G H fps [] w (Res.pure a r)⟩
def Sh.own : Sh → Bool
  | .l _ => true
  | .d _ => true
  | .o _ _ _ => true
  | _ => false
theorem Own.there {sh : Sh} {fp : List Addr} {v : Option V} {d : D} (h : Own B G H sh fp v d) (f : sh.own = true) : ∃ a, v = some (.ref a) := by
  cases sh with
  | l e =>
    simp only [Own] at h
    obtain ⟨a, _, _, _, e, _⟩ := h
    exact ⟨a, e⟩
  | d e =>
    simp only [Own] at h
    obtain ⟨a, _, _, _, _, e, _⟩ := h
    exact ⟨a, e⟩
  | o c fs es =>
    simp only [Own] at h
    obtain ⟨a, _, _, _, _, _, e, _⟩ := h
    exact ⟨a, e⟩
  | _ => simp [Sh.own] at f
theorem sem_bor {i : Nat} (hg : Ga[i]? = some sh) (hf : sh.own = true) : Sem B W (tVar i) Ga Ga (.b i) fBor := fun G H fps sg rho Q a h => by
  obtain ⟨fp, v, d, e1, e2, e3, o⟩ := a.own.get hg
  obtain ⟨x, rfl⟩ := o.there hf
  exact ⟨.ref x, e2, h G H fps [] (.ref x) ⟨(Step.refl G H _).sub (by simp), a, ⟨rfl, rfl, e2⟩, by simpa using a.nd, by simp⟩⟩
/-- an owned name is read as a whole: shared from now on -/
theorem sem_frz {i : Nat} (hg : Ga[i]? = some sh) (hf : sh.full = true) : Sem B W (tVar i) Ga (Ga.set i .s) .s (fVar i) := fun G H fps sg rho Q a h => by
  obtain ⟨fp, v, d, e1, e2, e3, o⟩ := a.own.get hg
  have ⟨m1, m2⟩ := merge_ex (fp := fp) a.ex
  obtain ⟨w, rfl, r⟩ := Own.rep (G' := merge G H fp) m1 hf (fun x hx o e => by rw [merge_in hx]; exact e) o
  have h' : Post B W (Ga.set i .s) .s sg G H fps.flatten Q (.ok (rho.getD i .non, rho)) := h
  rw [getD_of e3] at h'
  have os : Own B (merge G H fp) H .s [] (some w) d := by
    simp only [Own]
    exact ⟨trivial, w, rfl, r⟩
  have av := a.put (i := i) e1 m1 (fun x _ _ o e => e) os (by simp) (by simp) (by simp) (fun x hx hn => by rw [merge_out hn]; exact a.gn x hx) m2
  rw [set_same e2, set_same e3] at av
  have st : Step G H fps.flatten (merge G H fp) H (fps.set i []).flatten := by
    refine ⟨m1, fun x h1 h2 => ?_, fun _ _ _ e => e, fun _ h => h, fun x hx => ?_⟩
    · by_cases z : x ∈ fp
      · exact .inl (flat_mem e1 z)
      · rw [merge_out z] at h2
        exact absurd h1 h2
    · rcases flat_set_sub x hx with z | z
      · simp at z
      · exact .inl z
  exact ⟨w, e2, h' _ _ _ [] w ⟨st.sub (by simp), av, .s r, by simpa using av.nd, by simp⟩⟩
theorem sem_c {v : V} {d : D} (r : ∀ G, Rep B G v d) : Sem B W (tC v) Ga Ga .s (fC d) := fun G H fps sg rho Q a h => h G H fps [] v (Res.pure a (r G))

theorem DE.var (i : Nat) {x : Str} (hg : Ga[i]? = some .s := by rfl) (hN : X.N[i]? = some x := by rfl) (hv : ∀ ii, Vis (X.env ii).scope x := by intro _; first | exact Or.inl rfl | exact Or.inr (Or.inl rfl) | exact Or.inr (Or.inr rfl))
    (hd : (x == ("__debug__" : Str)) = false := by decide) (hc : (x == ("__classdict__" : Str)) = false := by decide) : DE X W (tVar i) Ga (.Name x pos) Ga .s (fVar i) := ⟨fun ii => pe_var hN (hv ii) hd hc, sem_var hg⟩
theorem DE.bor (i : Nat) {x : Str} (sh : Sh) (hg : Ga[i]? = some sh := by rfl) (hf : sh.own = true := by rfl) (hN : X.N[i]? = some x := by rfl) (hv : ∀ ii, Vis (X.env ii).scope x := by intro _; first | exact Or.inl rfl | exact Or.inr (Or.inl rfl) | exact Or.inr (Or.inr rfl))
    (hd : (x == ("__debug__" : Str)) = false := by decide) (hc : (x == ("__classdict__" : Str)) = false := by decide) : DE X W (tVar i) Ga (.Name x pos) Ga (.b i) fBor := ⟨fun ii => pe_var hN (hv ii) hd hc, sem_bor hg hf⟩
theorem DE.frz (i : Nat) {x : Str} (sh : Sh) (hg : Ga[i]? = some sh := by rfl) (hf : sh.full = true := by rfl) (hN : X.N[i]? = some x := by rfl) (hv : ∀ ii, Vis (X.env ii).scope x := by intro _; first | exact Or.inl rfl | exact Or.inr (Or.inl rfl) | exact Or.inr (Or.inr rfl))
    (hd : (x == ("__debug__" : Str)) = false := by decide) (hc : (x == ("__classdict__" : Str)) = false := by decide) : DE X W (tVar i) Ga (.Name x pos) (Ga.set i .s) .s (fVar i) := ⟨fun ii => pe_var hN (hv ii) hd hc, sem_frz hg hf⟩
theorem DE.int {i : Int} {j} : DE X W (tC (.int i)) Ga (.Constant (.int i) j pos) Ga .s (fC (.int i)) := ⟨fun ii => pe_int, sem_c fun _ => .int i⟩
theorem DE.bl {i : Bool} {j} : DE X W (tC (.bl i)) Ga (.Constant (.bool i) j pos) Ga .s (fC (.bl i)) := ⟨fun ii => pe_bl, sem_c fun _ => .bl i⟩
theorem DE.non {j} : DE X W (tC .non) Ga (.Constant .none j pos) Ga .s (fC .non) := ⟨fun ii => pe_non, sem_c fun _ => .non⟩
theorem DE.str {x : Str} {j} : DE X W (tC (.str x)) Ga (.Constant (.str x) j pos) Ga .s (fC (.str x)) := ⟨fun ii => pe_str, sem_c fun _ => .str x⟩
/-- a number, a text of the module -/
theorem DE.globI {x : Str} {i : Int} {t : Tok} (hm : X.mg x = some (.int i t)) (hg : ∀ ii, Gl (X.at ii) x := by intro _; rfl) (hd : (x == ("__debug__" : Str)) = false := by decide) : DE X W (tC (.int i)) Ga (.Name x pos) Ga .s (fC (.int i)) := ⟨fun ii => pe_glob (hg ii) hm ⟨t, rfl⟩ hd, sem_c fun _ => .int i⟩
theorem DE.globS {x : Str} {i : Str} {t : Tok} (hm : X.mg x = some (.str i t)) (hg : ∀ ii, Gl (X.at ii) x := by intro _; rfl) (hd : (x == ("__debug__" : Str)) = false := by decide) : DE X W (tC (.str i)) Ga (.Name x pos) Ga .s (fC (.str i)) := ⟨fun ii => pe_glob (hg ii) hm ⟨t, rfl⟩ hd, sem_c fun _ => .str i⟩
theorem DE.freeze (h : DE X W te Ga e Ga1 sh fa) (hf : sh.full = true := by rfl) : DE X W te Ga e Ga1 .s fa := ⟨fun ii => (h.pe ii), h.sm.freeze hf⟩

/-! ### operators on two values -/
/-- what an operator is by data -/
def Op2 (B : Bd) (r : R2) (g : D → D → R D) : Prop := ∀ (G H : Hp) (W : WX) (Ga : List Sh) (fps : List (List Addr)) (sg : St) (rho : List D) (sa sb : Sh) (d e : D) (v w : V) (Q : VK),
  At B G H Ga fps sg rho → Val B G H sg sa [] v d → Val B G H sg sb [] w e → seen Ga sa = true → seen Ga sb = true → Post B W Ga .s sg G H fps.flatten Q (lift (g (res sa d rho) (res sb e rho)) rho) → r v w H Q
def fOp2 (g : D → D → R D) (sa sb : Sh) (fa fb : Fx) : Fx := fBin fa fb fun d e rho => lift (g (res sa d rho) (res sb e rho)) rho
theorem Sem.op2 {r : R2} {g : D → D → R D} (ha : Sem B W ta Ga Ga1 sa fa) (hb : Sem B W tb Ga1 Ga2 sb fb) (hr : Op2 B r g) (fl : sa.flat = true) (fl2 : sb.flat = true) (s1 : seen Ga2 sa = true) (s2 : seen Ga2 sb = true) :
    Sem B W (tOp r ta tb) Ga Ga2 .s (fOp2 g sa sb fa fb) := Sem.bin ha hb fl fl2 fun G H fps sg rho d e v w Q a v1 v2 p => hr G H W Ga2 fps sg rho sa sb d e v w Q a v1 v2 s1 s2 p
theorem DE.op {op : Operator} {r : R2} {g : D → D → R D} (ho : ∀ ii, OpR (X.at ii) (binaryOp op) r) (hr : Op2 (bd X) r g) (ha : DE X W ta Ga a Ga1 sa fa) (hb : DE X W tb Ga1 b Ga2 sb fb)
    (fl : sa.flat = true := by rfl) (fl2 : sb.flat = true := by rfl) (s1 : seen Ga2 sa = true := by rfl) (s2 : seen Ga2 sb = true := by rfl) : DE X W (tOp r ta tb) Ga (.BinOp a op b pos) Ga2 .s (fOp2 g sa sb fa fb) :=
  ⟨fun ii => pe_op (ho ii) (ha.pe ii) (hb.pe ii), Sem.op2 ha.sm hb.sm hr fl fl2 s1 s2⟩
theorem DE.cmp {op : CmpOp} {r : R2} {g : D → D → R D} (ho : ∀ ii, OpR (X.at ii) (compareOp op) r) (hr : Op2 (bd X) r g) (ha : DE X W ta Ga a Ga1 sa fa) (hb : DE X W tb Ga1 b Ga2 sb fb)
    (fl : sa.flat = true := by rfl) (fl2 : sb.flat = true := by rfl) (s1 : seen Ga2 sa = true := by rfl) (s2 : seen Ga2 sb = true := by rfl) (hm : behindInMarks op b = false := by first | exact nomark _ | rfl) : DE X W (tOp r ta tb) Ga (.Compare a [op] [b] pos) Ga2 .s (fOp2 g sa sb fa fb) :=
  ⟨fun ii => pe_cmpR (ho ii) (ha.pe ii) (hb.pe ii) hm, Sem.op2 ha.sm hb.sm hr fl fl2 s1 s2⟩
def asB (d : D) : Fb := fun rho => match d with
  | .bl b => .ok (b, rho)
  | _ => stuck
theorem Sem.test (h : Sem B W te Ga Ga1 .s fa) : SemT B W (tTest te) Ga Ga1 (fTest fa asB) := fun G H fps sg rho Q a p =>
  h G H fps sg rho _ a (p.un rfl fun G1 H1 fps1 d rho1 v a1 v1 st p1 => by
    cases d with
    | bl b =>
      cases v1.of_s.2
      exact ⟨b, rfl, p1 G1 H1 fps1 (Step.refl _ _ _) a1⟩
    | _ => exact p1.elim)
theorem DT.cmp {op : CmpOp} {r : R2} {g : D → D → R D} (ho : ∀ ii, OpR (X.at ii) (compareOp op) r) (hr : Op2 (bd X) r g) (ha : DE X W ta Ga a Ga1 sa fa) (hb : DE X W tb Ga1 b Ga2 sb fb)
    (fl : sa.flat = true := by rfl) (fl2 : sb.flat = true := by rfl) (s1 : seen Ga2 sa = true := by rfl) (s2 : seen Ga2 sb = true := by rfl) (hm : behindInMarks op b = false := by first | exact nomark _ | rfl) : DT X W (tTest (tOp r ta tb)) Ga (.Compare a [op] [b] pos) Ga2 (fTest (fOp2 g sa sb fa fb) asB) :=
  ⟨fun ii => pt_cmpR (ho ii) (ha.pe ii) (hb.pe ii) hm, Sem.test (Sem.op2 ha.sm hb.sm hr fl fl2 s1 s2)⟩
/-- a value that is a truth, as a test -/
theorem DT.val (h : DE X W te Ga e Ga1 .s fa) (he : ∀ ii, ∀ whole, isTrue e (X.env ii) whole = (do let v ← whole; standAt e.pos; holding [v] (truthy v)) := by intro _; intro _; rfl) : DT X W (tB te) Ga e Ga1 (fTest fa asB) := ⟨fun ii => pt_val (h.pe ii) (he ii), Sem.test h.sm⟩
variable {tt tu : TT} {cf cg : Fb}
theorem SemT.not (h : SemT B W tt Ga Ga1 cf) : SemT B W (tNot tt) Ga Ga1 (fNotT cf) := fun G H fps sg rho Q av p =>
  h G H fps sg rho _ av (PostT.to (P := fun G H A r => PostT B W Ga1 sg G H A Q r) (g := fun b r => .ok (!b, r)) (fun s h => h.later s) (fun h => h.err) p fun G1 H1 fps1 b rho1 a1 p1 => p1 G1 H1 fps1 (Step.refl _ _ _) a1)
theorem SemT.and (h : SemT B W tt Ga Ga1 cf) (h2 : SemT B W tu Ga1 Ga1 cg) : SemT B W (tAnd tt tu) Ga Ga1 (fAndT cf cg) := fun G H fps sg rho Q av p =>
  h G H fps sg rho _ av (PostT.to (P := fun G H A r => PostT B W Ga1 sg G H A Q r) (g := fun b r => if b then cg r else .ok (false, r)) (fun s h => h.later s) (fun h => h.err) p fun G1 H1 fps1 b rho1 a1 p1 => by
    cases b with
    | true =>
      rw [if_pos rfl] at p1 ⊢
      exact h2 G1 H1 fps1 sg rho1 Q a1 p1
    | false =>
      rw [if_neg Bool.false_ne_true] at p1 ⊢
      exact p1 G1 H1 fps1 (Step.refl _ _ _) a1)
theorem SemT.or (h : SemT B W tt Ga Ga1 cf) (h2 : SemT B W tu Ga1 Ga1 cg) : SemT B W (tOr tt tu) Ga Ga1 (fOrT cf cg) := fun G H fps sg rho Q av p =>
  h G H fps sg rho _ av (PostT.to (P := fun G H A r => PostT B W Ga1 sg G H A Q r) (g := fun b r => if b then .ok (true, r) else cg r) (fun s h => h.later s) (fun h => h.err) p fun G1 H1 fps1 b rho1 a1 p1 => by
    cases b with
    | false =>
      rw [if_neg Bool.false_ne_true] at p1 ⊢
      exact h2 G1 H1 fps1 sg rho1 Q a1 p1
    | true =>
      rw [if_pos rfl] at p1 ⊢
      exact p1 G1 H1 fps1 (Step.refl _ _ _) a1)
theorem DT.not (h : DT X W tt Ga a Ga1 cf) : DT X W (tNot tt) Ga (.UnaryOp .Not a pos) Ga1 (fNotT cf) := ⟨fun ii => pt_not (h.pe ii), h.sm.not⟩
variable {rest : List Expr}
theorem DW.and1 (h : DT X W tt Ga a Ga1 cf) : DW X W tt Ga (.BoolOp .And [a] pos) Ga1 cf := ⟨fun ii => pw_and1 (h.pe ii), h.sm⟩
theorem DW.or1 (h : DT X W tt Ga a Ga1 cf) : DW X W tt Ga (.BoolOp .Or [a] pos) Ga1 cf := ⟨fun ii => pw_or1 (h.pe ii), h.sm⟩
theorem DW.and (h : DT X W tt Ga a Ga1 cf) (h2 : DW X W tu Ga1 (.BoolOp .And (b :: rest) pos) Ga1 cg) : DW X W (tAnd tt tu) Ga (.BoolOp .And (a :: b :: rest) pos) Ga1 (fAndT cf cg) := ⟨fun ii => pw_and (h.pe ii) (h2.pe ii), h.sm.and h2.sm⟩
theorem DW.or (h : DT X W tt Ga a Ga1 cf) (h2 : DW X W tu Ga1 (.BoolOp .Or (b :: rest) pos) Ga1 cg) : DW X W (tOr tt tu) Ga (.BoolOp .Or (a :: b :: rest) pos) Ga1 (fOrT cf cg) := ⟨fun ii => pw_or (h.pe ii) (h2.pe ii), h.sm.or h2.sm⟩
theorem DW.t (h : DW X W tt Ga e Ga1 cf) : DT X W tt Ga e Ga1 cf := ⟨fun ii => (h.pe ii).pt, h.sm⟩
/-- and, or, not as values (truths) -/
def fAndE (fa fb : Fx) : Fx := fUn fa fun d rho => match d with
  | .bl b => if b then fb rho else .ok (.bl false, rho)
  | _ => stuck
def fOrE (fa fb : Fx) : Fx := fUn fa fun d rho => match d with
  | .bl b => if b then .ok (.bl true, rho) else fb rho
  | _ => stuck
def fNotE (fa : Fx) : Fx := fUn fa fun d rho => match d with
  | .bl b => .ok (.bl (!b), rho)
  | _ => stuck
theorem Sem.un' {g : D → Fx} {r : St → V → Hp → VK → Prop} (ha : Sem B W ta Ga Ga1 sa fa) (fl : sa.flat = true)
    (hr : ∀ (G H : Hp) (fps : List (List Addr)) (sg : St) (rho : List D) (d : D) (v : V) (Q : VK), At B G H Ga1 fps sg rho → Val B G H sg sa [] v d → Post B W Ga2 sh sg G H fps.flatten Q (g d rho) → r sg v H Q) :
    Sem B W (fun sg H Q => ta sg H fun x H1 => r sg x H1 Q) Ga Ga2 sh (fUn fa g) := fun G H fps sg rho Q a h =>
  ha G H fps sg rho _ a (h.un fl fun G1 H1 fps1 d rho1 v a1 v1 st h1 => hr G1 H1 fps1 sg rho1 d v Q a1 v1 h1)
theorem Sem.andV (h : Sem B W ta Ga Ga1 .s fa) (h2 : Sem B W tb Ga1 Ga1 .s fb) : Sem B W (tAndV ta tb) Ga Ga1 .s (fAndE fa fb) := Sem.un' (r := fun sg x H1 Q => ∃ c, x = .bl c ∧ if c = true then tb sg H1 Q else Q (.bl false) H1) h rfl fun G H fps sg rho d v Q av vl p => by
  cases d with
  | bl x =>
    cases vl.of_s.2
    refine ⟨x, rfl, ?_⟩
    cases x with
    | true =>
      simp only [if_true] at p ⊢
      exact h2 G H fps sg rho Q av p
    | false =>
      simp only [Bool.false_eq_true, if_false] at p ⊢
      exact p G H fps [] _ (Res.pure av (.bl false))
  | _ => exact p.elim
theorem Sem.orV (h : Sem B W ta Ga Ga1 .s fa) (h2 : Sem B W tb Ga1 Ga1 .s fb) : Sem B W (tOrV ta tb) Ga Ga1 .s (fOrE fa fb) := Sem.un' (r := fun sg x H1 Q => ∃ c, x = .bl c ∧ if c = true then Q (.bl true) H1 else tb sg H1 Q) h rfl fun G H fps sg rho d v Q av vl p => by
  cases d with
  | bl x =>
    cases vl.of_s.2
    refine ⟨x, rfl, ?_⟩
    cases x with
    | false =>
      simp only [Bool.false_eq_true, if_false] at p ⊢
      exact h2 G H fps sg rho Q av p
    | true =>
      simp only [if_true] at p ⊢
      exact p G H fps [] _ (Res.pure av (.bl true))
  | _ => exact p.elim
theorem Sem.notV (h : Sem B W ta Ga Ga1 .s fa) : Sem B W (tNotV ta) Ga Ga1 .s (fNotE fa) := Sem.un' (r := fun sg x H1 Q => ∃ c, x = .bl c ∧ Q (.bl (!c)) H1) h rfl fun G H fps sg rho d v Q av vl p => by
  cases d with
  | bl x =>
    cases vl.of_s.2
    exact ⟨x, rfl, p G H fps [] _ (Res.pure av (.bl _))⟩
  | _ => exact p.elim
theorem DE.one {op} (h : DE X W ta Ga a Ga1 .s fa) : DE X W ta Ga (.BoolOp op [a] pos) Ga1 .s fa := ⟨fun ii => pe_one (h.pe ii), h.sm⟩
theorem DE.and (h : DE X W ta Ga a Ga1 .s fa) (h2 : DE X W tb Ga1 (.BoolOp .And (b :: rest) pos) Ga1 .s fb) : DE X W (tAndV ta tb) Ga (.BoolOp .And (a :: b :: rest) pos) Ga1 .s (fAndE fa fb) := ⟨fun ii => pe_and (h.pe ii) (h2.pe ii), h.sm.andV h2.sm⟩
theorem DE.or (h : DE X W ta Ga a Ga1 .s fa) (h2 : DE X W tb Ga1 (.BoolOp .Or (b :: rest) pos) Ga1 .s fb) : DE X W (tOrV ta tb) Ga (.BoolOp .Or (a :: b :: rest) pos) Ga1 .s (fOrE fa fb) := ⟨fun ii => pe_or (h.pe ii) (h2.pe ii), h.sm.orV h2.sm⟩
theorem DE.not (h : DE X W ta Ga a Ga1 .s fa) : DE X W (tNotV ta) Ga (.UnaryOp .Not a pos) Ga1 .s (fNotE fa) := ⟨fun ii => pe_not (h.pe ii), h.sm.notV⟩
/-- a if t else b -/
theorem Sem.ifE (h : SemT B W tt Ga Ga1 cf) (h1 : Sem B W ta Ga1 Ga2 sh fa) (h2 : Sem B W tb Ga1 Ga2 sh fb) : Sem B W (tIf tt ta tb) Ga Ga2 sh (fIfE cf fa fb) := fun G H fps sg rho Q av p =>
  h G H fps sg rho _ av (PostT.to (P := fun G H A r => Post B W Ga2 sh sg G H A Q r) (g := fun b r => if b then fa r else fb r) (fun s h => h.later s) (fun h => h.errT) p fun G1 H1 fps1 b rho1 a1 p1 => by
    cases b with
    | true =>
      simp only [if_true] at p1 ⊢
      exact h1 G1 H1 fps1 sg rho1 Q a1 p1
    | false =>
      simp only [Bool.false_eq_true, if_false] at p1 ⊢
      exact h2 G1 H1 fps1 sg rho1 Q a1 p1)
theorem DE.ifE (h : DT X W tt Ga c Ga1 cf) (h1 : DE X W ta Ga1 a Ga2 sh fa) (h2 : DE X W tb Ga1 b Ga2 sh fb) : DE X W (tIf tt ta tb) Ga (.IfExp c a b pos) Ga2 sh (fIfE cf fa fb) := ⟨fun ii => pe_ifExp (h.pe ii) (h1.pe ii) (h2.pe ii), Sem.ifE h.sm h1.sm h2.sm⟩

/-! ### argument lists -/
variable {tr : TA} {shs : List Sh} {es : List Expr} {fs : Fs}
theorem SemA.nil : SemA B W tNil Ga Ga [] fNil := fun G H fps sg rho Q a p => p G H fps [] (Step.refl _ _ _) a .nil
theorem SemA.cons (h : Sem B W ta Ga Ga1 sa fa) (h2 : SemA B W tr Ga1 Ga2 shs fs) (fl : sa.flat = true) : SemA B W (tCons ta tr) Ga Ga2 (sa :: shs) (fCons fa fs) := fun G H fps sg rho Q av p => by
  refine h G H fps sg rho _ av ?_
  unfold fCons at p
  cases e : fa rho with
  | ok z =>
    obtain ⟨d, rho1⟩ := z
    rw [e] at p
    intro G1 H1 fps1 fp1 v1 r1
    have e1 := r1.vl.flat fl
    subst e1
    have st := r1.st
    rw [List.append_nil] at st
    refine h2 G1 H1 fps1 sg rho1 _ r1.av ?_
    have p1 := p.later st
    simp only at p1
    cases e2 : fs rho1 with
    | ok z =>
      obtain ⟨ds, rho2⟩ := z
      rw [e2] at p1
      exact fun G2 H2 fps2 vs st2 a2 vl2 => p1 G2 H2 fps2 _ st2 a2 (.cons (r1.vl.mono st2.g (by simp)) vl2)
    | error x =>
      rw [e2] at p1
      exact p1.errA
  | error x =>
    rw [e] at p
    exact p.errE
theorem DA.nil : DA X W tNil Ga [] Ga [] fNil := ⟨fun ii => pa_nil, SemA.nil⟩
theorem DA.cons (h : DE X W ta Ga a Ga1 sa fa) (h2 : DA X W tr Ga1 es Ga2 shs fs) (fl : sa.flat = true := by rfl) (hs : ∀ ii, starEach (a :: es) (X.env ii) = (false, eval a (X.env ii)) :: starEach es (X.env ii) := by intro _; rfl) : DA X W (tCons ta tr) Ga (a :: es) Ga2 (sa :: shs) (fCons fa fs) :=
  ⟨fun ii => pa_cons (h.pe ii) (h2.pe ii) (hs ii), SemA.cons h.sm h2.sm fl⟩
theorem SemA.args {ts : TA} {g : List D → Fx} {r : List V → Hp → VK → Prop} (h : SemA B W ts Ga Ga1 shs fs)
    (hr : ∀ (G H : Hp) (fps : List (List Addr)) (sg : St) (rho : List D) (ds : List D) (vs : List V) (Q : VK), At B G H Ga1 fps sg rho → ValL B G H sg shs vs ds → Post B W Ga2 sh sg G H fps.flatten Q (g ds rho) → r vs H Q) :
    Sem B W (fun sg H Q => ts sg H fun vs H1 => r vs H1 Q) Ga Ga2 sh (fArgs fs g) := fun G H fps sg rho Q av p => by
  refine h G H fps sg rho _ av ?_
  unfold fArgs at p
  cases e : fs rho with
  | ok z =>
    obtain ⟨ds, rho1⟩ := z
    rw [e] at p
    exact fun G1 H1 fps1 vs st a vl => hr G1 H1 fps1 sg rho1 ds vs Q a vl (p.later st)
  | error x =>
    rw [e] at p
    exact p.errA
theorem ValL.reps {sg : St} : ∀ {shs : List Sh} {vs : List V} {ds : List D}, ValL B G H sg shs vs ds → shs.all (fun s => match s with | .s => true | _ => false) = true → Reps B G vs ds
  | _, _, _, .nil, _ => .nil
  | .s :: shs, _, _, .cons h r, f => .cons h.of_s.2 (ValL.reps r (by simpa using f))
  | .u :: shs, _, _, .cons h r, f => by simp at f
  | .b _ :: shs, _, _, .cons h r, f => by simp at f
  | .l _ :: shs, _, _, .cons h r, f => by simp at f
  | .d _ :: shs, _, _, .cons h r, f => by simp at f
  | .o _ _ _ :: shs, _, _, .cons h r, f => by simp at f
/-! displays -/
theorem small_line {n : Nat} (h : n ≤ 16777216) : n ≤ sizeLine := by
  rw [sizeLine_eq]
  exact h
theorem line_small {n : Nat} (h : n ≤ sizeLine) : n ≤ 16777216 := by
  rw [sizeLine_eq] at h
  exact h
/-- a new tuple, its one object known -/
def tTupQ (t : TA) : TE := fun sg H Q => t sg H fun xs H1 => xs.length ≤ sizeLine ∧ ∀ p o, H1 p = none → o.cls = .type "tuple" → o.dict = none → Q (.ref p) (upd H1 p (.frz o (.tup xs)))
theorem pe_tupQ {X : Cx} {es : List Expr} {t : TA} {pos : Pos} {x1} (h : PA X es t) : PE X (.Tuple es x1 pos) (tTupQ t) := by
  refine ⟨fun pins s sg H Q I hq => ?_⟩
  refine wpAny_Tuple_spliced (thn (h.run pos pins s sg H _ I hq) fun us s1 ⟨xs, H1, I1, r, z, q⟩ => ⟨by rw [← r.length]; exact z, ?_⟩)
  have hf : H1 s1.heap.objs.size = none := I1.hok.fresh (Nat.le_refl _)
  refine ⟨.ref s1.heap.objs.size, upd H1 s1.heap.objs.size (.frz { cls := .type "tuple", data := .seq (us.toArray) } (.tup xs)), I1.laid (t' := s1.toks) (fun b u e => Heap.get?_push_of_some _ e) (Nat.le_refl _) ?n, rfl, q _ _ hf rfl rfl⟩
  case n => exact ⟨Heap.get?_push_size _ rfl, z, us, r, ⟨_, Heap.get?_push_size _ rfl, rfl, _, rfl⟩⟩
theorem TQ.of {K : PySem.W.Frag} {H : Hp} {a : Addr} {xs : List V} {o : Obj} (h : H a = some (.frz o (.tup xs))) (h1 : o.cls = .type "tuple") (h2 : o.dict = none) : TQ K H a xs := .inl ⟨o, h, h1, h2⟩
def fTup (fs : Fs) : Fx := fArgs fs fun ds rho => if ds.length ≤ 16777216 then .ok (.tup ds, rho) else stuck
def fLst (fs : Fs) : Fx := fArgs fs fun ds rho => if ds.length ≤ 16777216 then .ok (.lst ds, rho) else stuck
theorem Sem.tup (h : SemA B W tr Ga Ga1 shs fs) (f : shs.all (fun s => match s with | .s => true | _ => false) = true) : Sem B W (tTupQ tr) Ga Ga1 .s (fTup fs) := h.args fun G H fps sg rho ds vs Q av vl p => by
  have rs := vl.reps f
  by_cases z : ds.length ≤ 16777216
  · rw [if_pos z] at p
    refine ⟨small_line (by rw [rs.length]; exact z), fun q o hq h1 h2 => p _ _ _ _ _ (Res.new av hq (.tup (TQ.of upd_same h1 h2) (rs.mono (Ex.new (av.ex.free hq)))))⟩
  · rw [if_neg z] at p
    exact p.elim
theorem Owns.all : ∀ {vs : List V} {ds : List D}, Reps B G vs ds → Owns (Own B G H .s) (List.replicate vs.length []) vs ds
  | _, _, .nil => .nil
  | _, _, .cons h r => .cons (by
      simp only [Own]
      exact ⟨trivial, _, rfl, h⟩) (Owns.all r)
theorem flat_rep (n : Nat) : (List.replicate n ([] : List Addr)).flatten = [] := by
  induction n with
  | zero => rfl
  | succ n ih => rw [List.replicate_succ, List.flatten_cons, ih]; rfl
theorem own_list {p : Addr} {vs : List V} {ds : List D} (h : H p = some (.lst vs)) (r : Reps B G vs ds) : Own B G H (.l .s) [p] (some (.ref p)) (.lst ds) := by
  have o : Owns (Own B G H .s) (List.replicate vs.length []) vs ds := Owns.all r
  unfold Own
  exact ⟨p, vs, ds, List.replicate vs.length [], rfl, rfl, h, by rw [flat_rep], o⟩
theorem Sem.lst (h : SemA B W tr Ga Ga1 shs fs) (f : shs.all (fun s => match s with | .s => true | _ => false) = true) : Sem B W (tLst tr) Ga Ga1 (.l .s) (fLst fs) := h.args fun G H fps sg rho ds vs Q av vl p => by
  have rs := vl.reps f
  by_cases z : ds.length ≤ 16777216
  · rw [if_pos z] at p
    exact ⟨small_line (by rw [rs.length]; exact z), fun q hq => p _ _ _ _ _ (Res.newOwn av hq (own_list upd_same rs))⟩
  · rw [if_neg z] at p
    exact p.elim
theorem DE.tup {x1} (h : DA X W tr Ga es Ga1 shs fs) (f : shs.all (fun s => match s with | .s => true | _ => false) = true := by rfl) : DE X W (tTupQ tr) Ga (.Tuple es x1 pos) Ga1 .s (fTup fs) := ⟨fun ii => pe_tupQ (h.pe ii), Sem.tup h.sm f⟩
theorem DE.lst (h : DA X W tr Ga es Ga1 shs fs) (f : shs.all (fun s => match s with | .s => true | _ => false) = true := by rfl) : DE X W (tLst tr) Ga (.List es pos) Ga1 (.l .s) (fLst fs) := ⟨fun ii => pe_lst (h.pe ii), Sem.lst h.sm f⟩
end
end EB
namespace EB
open PySem L2
variable {B : Bd} {G G' G1 G2 G3 H H' H1 H2 H3 : Hp} {A A1 A2 A3 F : List Addr}
section
variable {Ga : List Sh} {fps : List (List Addr)} {sg : St} {rho : List D} {sh : Sh} {v : V} {d : D}
theorem At.int {i : Int} (a : At B G H Ga fps sg rho) (h : Val B G H sg sh [] v d) (s : seen Ga sh = true) (e : res sh d rho = .int i) : v = .int i := by
  obtain ⟨G1, _, _, r⟩ := a.view h s
  rw [e] at r
  cases r
  rfl
theorem At.bl {i : Bool} (a : At B G H Ga fps sg rho) (h : Val B G H sg sh [] v d) (s : seen Ga sh = true) (e : res sh d rho = .bl i) : v = .bl i := by
  obtain ⟨G1, _, _, r⟩ := a.view h s
  rw [e] at r
  cases r
  rfl
theorem At.str {i : Str} (a : At B G H Ga fps sg rho) (h : Val B G H sg sh [] v d) (s : seen Ga sh = true) (e : res sh d rho = .str i) : v = .str i := by
  obtain ⟨G1, _, _, r⟩ := a.view h s
  rw [e] at r
  cases r
  rfl
theorem At.non (a : At B G H Ga fps sg rho) (h : Val B G H sg sh [] v d) (s : seen Ga sh = true) (e : res sh d rho = .non) : v = .non := by
  obtain ⟨G1, _, _, r⟩ := a.view h s
  rw [e] at r
  cases r
  rfl
end
/-- a plain answer -/
theorem Post.flat {W : WX} {Ga : List Sh} {fps : List (List Addr)} {sg : St} {rho : List D} {d : D} {v : V} {Q : VK} (a : At B G H Ga fps sg rho) (p : Post B W Ga .s sg G H fps.flatten Q (lift (.ok d) rho)) (r : Rep B G v d) : Q v H :=
  p G H fps [] v (Res.pure a r)

/-! ### whole numbers -/
def dSub : D → D → R D
  | .int i, .int j => .ok (.int (i - j))
  | _, _ => stuck
def dMul : D → D → R D
  | .int i, .int j => if Builtin.Int.intBits i + Builtin.Int.intBits j ≤ 134217728 then .ok (.int (i * j)) else stuck
  | _, _ => stuck
def dFdiv : D → D → R D
  | .int i, .int j => if 0 < j ∧ j.natAbs.log2 < 9000 then .ok (.int (i / j)) else stuck
  | _, _ => stuck
def dMod : D → D → R D
  | .int i, .int j => if 0 < j then .ok (.int (i % j)) else stuck
  | _, _ => stuck
def dPow : D → D → R D
  | .int i, .int j => if 0 ≤ j ∧ (Builtin.Int.intBits i : Int) * j ≤ 134217728 then .ok (.int (i ^ j.toNat)) else stuck
  | _, _ => stuck
def dLt : D → D → R D
  | .int i, .int j => .ok (.bl (decide (i < j)))
  | _, _ => stuck
def dLe : D → D → R D
  | .int i, .int j => .ok (.bl (decide (i ≤ j)))
  | _, _ => stuck
def dGt : D → D → R D
  | .int i, .int j => .ok (.bl (decide (j < i)))
  | _, _ => stuck
def dGe : D → D → R D
  | .int i, .int j => .ok (.bl (decide (j ≤ i)))
  | _, _ => stuck
section
variable {I : Type} {X : Cf I}
theorem op_powW {X : Cx} : OpR X (binaryOp .Pow) (rI (fun i j => 0 ≤ j ∧ (Builtin.Int.intBits i : Int) * j ≤ 134217728) fun i j => .int (i ^ j.toNat)) := opI fun _ _ _ _ _ _ _ hc q => PyProof.Rows.pow_int hc.1 hc.2 q
theorem o2_sub : Op2 B (rI0 fun i j => .int (i - j)) dSub := fun G H W Ga fps sg rho sa sb d e v w Q a v1 v2 s1 s2 p => by
  unfold dSub at p
  split at p
  · rename_i i j e1 e2
    exact ⟨i, j, a.int v1 s1 e1, a.int v2 s2 e2, Post.flat a p (.int _)⟩
  · exact p.elim
theorem o2_mul : Op2 B (rI CMulX fun i j => .int (i * j)) dMul := fun G H W Ga fps sg rho sa sb d e v w Q a v1 v2 s1 s2 p => by
  unfold dMul at p
  split at p
  · rename_i i j e1 e2
    split at p
    · rename_i hc
      exact ⟨i, j, a.int v1 s1 e1, a.int v2 s2 e2, (by unfold CMulX; omega), Post.flat a p (.int _)⟩
    · exact p.elim
  · exact p.elim
theorem o2_fdiv : Op2 B (rI CDivW fun i j => .int (i / j)) dFdiv := fun G H W Ga fps sg rho sa sb d e v w Q a v1 v2 s1 s2 p => by
  unfold dFdiv at p
  split at p
  · rename_i i j e1 e2
    split at p
    · rename_i hc
      exact ⟨i, j, a.int v1 s1 e1, a.int v2 s2 e2, hc, Post.flat a p (.int _)⟩
    · exact p.elim
  · exact p.elim
theorem o2_mod : Op2 B (rI (fun _ j => 0 < j) fun i j => .int (i % j)) dMod := fun G H W Ga fps sg rho sa sb d e v w Q a v1 v2 s1 s2 p => by
  unfold dMod at p
  split at p
  · rename_i i j e1 e2
    split at p
    · rename_i hc
      exact ⟨i, j, a.int v1 s1 e1, a.int v2 s2 e2, hc, Post.flat a p (.int _)⟩
    · exact p.elim
  · exact p.elim
theorem o2_pow : Op2 B (rI (fun i j => 0 ≤ j ∧ (Builtin.Int.intBits i : Int) * j ≤ 134217728) fun i j => .int (i ^ j.toNat)) dPow := fun G H W Ga fps sg rho sa sb d e v w Q a v1 v2 s1 s2 p => by
  unfold dPow at p
  split at p
  · rename_i i j e1 e2
    split at p
    · rename_i hc
      exact ⟨i, j, a.int v1 s1 e1, a.int v2 s2 e2, hc, Post.flat a p (.int _)⟩
    · exact p.elim
  · exact p.elim
theorem o2_lt : Op2 B (rI0 fun i j => .bl (decide (i < j))) dLt := fun G H W Ga fps sg rho sa sb d e v w Q a v1 v2 s1 s2 p => by
  unfold dLt at p
  split at p
  · rename_i i j e1 e2
    exact ⟨i, j, a.int v1 s1 e1, a.int v2 s2 e2, Post.flat a p (.bl _)⟩
  · exact p.elim
theorem o2_le : Op2 B (rI0 fun i j => .bl (decide (i ≤ j))) dLe := fun G H W Ga fps sg rho sa sb d e v w Q a v1 v2 s1 s2 p => by
  unfold dLe at p
  split at p
  · rename_i i j e1 e2
    exact ⟨i, j, a.int v1 s1 e1, a.int v2 s2 e2, Post.flat a p (.bl _)⟩
  · exact p.elim
theorem o2_gt : Op2 B (rI0 fun i j => .bl (decide (j < i))) dGt := fun G H W Ga fps sg rho sa sb d e v w Q a v1 v2 s1 s2 p => by
  unfold dGt at p
  split at p
  · rename_i i j e1 e2
    exact ⟨i, j, a.int v1 s1 e1, a.int v2 s2 e2, Post.flat a p (.bl _)⟩
  · exact p.elim
theorem o2_ge : Op2 B (rI0 fun i j => .bl (decide (j ≤ i))) dGe := fun G H W Ga fps sg rho sa sb d e v w Q a v1 v2 s1 s2 p => by
  unfold dGe at p
  split at p
  · rename_i i j e1 e2
    exact ⟨i, j, a.int v1 s1 e1, a.int v2 s2 e2, Post.flat a p (.bl _)⟩
  · exact p.elim
/-! ### ==, is None, in -/
def dEq : D → D → R D := fun x y => match dEqB x y with
  | some b => .ok (.bl b)
  | none => stuck
def dNe : D → D → R D := fun x y => match dEqB x y with
  | some b => .ok (.bl (!b))
  | none => stuck
theorem eq_parts {x y : D} {b : Bool} (h : dEqB x y = some b) : ∃ p q, x.py = some p ∧ y.py = some q ∧ SeqAt.shaped p = true ∧ SeqAt.shaped q = true ∧ b = PyData.eqv p q := by
  unfold dEqB at h
  split at h
  · rename_i p q e1 e2
    split at h
    · rename_i hc
      cases h
      exact ⟨p, q, e1, e2, hc.1, hc.2, rfl⟩
    · cases h
  · cases h
theorem o2_eq : Op2 B (rEqD B.K) dEq := fun G H W Ga fps sg rho sa sb d e v w Q a v1 v2 s1 s2 p => by
  unfold dEq at p
  split at p
  · rename_i b hb
    obtain ⟨p1, q1, e1, e2, h1, h2, rfl⟩ := eq_parts hb
    obtain ⟨G1, _, x1, r1⟩ := a.view v1 s1
    obtain ⟨G2, _, x2, r2⟩ := a.view v2 s2
    exact ⟨p1, q1, r1.dp x1 e1, r2.dp x2 e2, h1, h2, Post.flat a p (.bl _)⟩
  · exact p.elim
theorem o2_ne : Op2 B (rNeD B.K) dNe := fun G H W Ga fps sg rho sa sb d e v w Q a v1 v2 s1 s2 p => by
  unfold dNe at p
  split at p
  · rename_i b hb
    obtain ⟨p1, q1, e1, e2, h1, h2, rfl⟩ := eq_parts hb
    obtain ⟨G1, _, x1, r1⟩ := a.view v1 s1
    obtain ⟨G2, _, x2, r2⟩ := a.view v2 s2
    exact ⟨p1, q1, r1.dp x1 e1, r2.dp x2 e2, h1, h2, Post.flat a p (.bl _)⟩
  · exact p.elim
def D.isN : D → Bool
  | .non => true
  | _ => false
def dIs : D → D → R D
  | x, .non => .ok (.bl x.isN)
  | _, _ => stuck
def dIsNot : D → D → R D
  | x, .non => .ok (.bl (!x.isN))
  | _, _ => stuck
theorem Rep.isN {v : V} {d : D} (r : Rep B G v d) : decide (v = .non) = d.isN := by
  cases r <;> first | rfl | exact decide_eq_false (fun h => nomatch h)
theorem o2_is : Op2 B (fun x y H Q => y = .non ∧ Q (.bl (decide (x = .non))) H) dIs := fun G H W Ga fps sg rho sa sb d e v w Q a v1 v2 s1 s2 p => by
  unfold dIs at p
  split at p
  · rename_i x e2
    obtain ⟨G1, _, x1, r1⟩ := a.view v1 s1
    refine ⟨a.non v2 s2 e2, ?_⟩
    rw [r1.isN]
    exact Post.flat a p (.bl _)
  · exact p.elim
theorem o2_isnot : Op2 B (fun x y H Q => y = .non ∧ Q (.bl (!decide (x = .non))) H) dIsNot := fun G H W Ga fps sg rho sa sb d e v w Q a v1 v2 s1 s2 p => by
  unfold dIsNot at p
  split at p
  · rename_i x e2
    obtain ⟨G1, _, x1, r1⟩ := a.view v1 s1
    refine ⟨a.non v2 s2 e2, ?_⟩
    rw [r1.isN]
    exact Post.flat a p (.bl _)
  · exact p.elim
/-- in a list, by == -/
def dInB : D → D → Option Bool
  | x, .lst ds => match x.py, D.pys ds with
    | some p, some ps => if SeqAt.shaped p = true ∧ SeqAt.shaped (.list ps) = true then some (ps.any fun z => PyData.eqv z p) else none
    | _, _ => none
  | _, _ => none
def dIn : D → D → R D := fun x y => match dInB x y with
  | some b => .ok (.bl b)
  | none => stuck
def dNotIn : D → D → R D := fun x y => match dInB x y with
  | some b => .ok (.bl (!b))
  | none => stuck
theorem in_parts {x y : D} {b : Bool} (h : dInB x y = some b) : ∃ p ps, x.py = some p ∧ y.py = some (.list ps) ∧ SeqAt.shaped p = true ∧ SeqAt.shaped (.list ps) = true ∧ b = ps.any fun z => PyData.eqv z p := by
  unfold dInB at h
  split at h
  · rename_i ds
    split at h
    · rename_i p ps e1 e2
      split at h
      · rename_i hc
        cases h
        exact ⟨p, ps, e1, by simp [D.py, e2], hc.1, hc.2, rfl⟩
      · cases h
    · cases h
  · cases h
theorem o2_in : Op2 B (rInD B.K) dIn := fun G H W Ga fps sg rho sa sb d e v w Q a v1 v2 s1 s2 p => by
  unfold dIn at p
  split at p
  · rename_i b hb
    obtain ⟨p1, q1, e1, e2, h1, h2, rfl⟩ := in_parts hb
    obtain ⟨G1, _, x1, r1⟩ := a.view v1 s1
    obtain ⟨G2, _, x2, r2⟩ := a.view v2 s2
    exact ⟨p1, q1, r1.dp x1 e1, r2.dp x2 e2, h1, h2, Post.flat a p (.bl _)⟩
  · exact p.elim
theorem o2_notin : Op2 B (rNotInD B.K) dNotIn := fun G H W Ga fps sg rho sa sb d e v w Q a v1 v2 s1 s2 p => by
  unfold dNotIn at p
  split at p
  · rename_i b hb
    obtain ⟨p1, q1, e1, e2, h1, h2, rfl⟩ := in_parts hb
    obtain ⟨G1, _, x1, r1⟩ := a.view v1 s1
    obtain ⟨G2, _, x2, r2⟩ := a.view v2 s2
    exact ⟨p1, q1, r1.dp x1 e1, r2.dp x2 e2, h1, h2, Post.flat a p (.bl _)⟩
  · exact p.elim
end

/-! ### operators that read items -/
def Op2i (B : Bd) (r : R2) (g : D → D → R D) : Prop := ∀ (G H : Hp) (W : WX) (Ga : List Sh) (fps : List (List Addr)) (sg : St) (rho : List D) (sa sb : Sh) (d e : D) (v w : V) (Q : VK),
  At B G H Ga fps sg rho → Val B G H sg sa [] v d → Val B G H sg sb [] w e → seen1 Ga sa = true → seen1 Ga sb = true → Post B W Ga .s sg G H fps.flatten Q (lift (g (res sa d rho) (res sb e rho)) rho) → r v w H Q
theorem seen_of {Ga : List Sh} {sh : Sh} (h : seen1 Ga sh = true) : seen Ga sh = true := by
  cases sh with
  | s => rfl
  | b i =>
    simp only [seen1] at h
    simp only [seen]
    split at h <;> simp_all [Sh.full]
  | _ => simp [seen1] at h
section
variable {I : Type} {X : Cf I} {W : WX} {Ga Ga1 Ga2 Ga3 : List Sh} {sa sb sc sh : Sh} {fa fb fc : Fx} {a b c e : Expr} {ta tb tc te : TE} {pos : Pos}
theorem Sem.op2i {r : R2} {g : D → D → R D} (ha : Sem B W ta Ga Ga1 sa fa) (hb : Sem B W tb Ga1 Ga2 sb fb) (hr : Op2i B r g) (fl : sa.flat = true) (fl2 : sb.flat = true) (s1 : seen1 Ga2 sa = true) (s2 : seen1 Ga2 sb = true) :
    Sem B W (tOp r ta tb) Ga Ga2 .s (fOp2 g sa sb fa fb) := Sem.bin ha hb fl fl2 fun G H fps sg rho d e v w Q a v1 v2 p => hr G H W Ga2 fps sg rho sa sb d e v w Q a v1 v2 s1 s2 p
theorem DE.opi {op : Operator} {r : R2} {g : D → D → R D} (ho : ∀ ii, OpR (X.at ii) (binaryOp op) r) (hr : Op2i (bd X) r g) (ha : DE X W ta Ga a Ga1 sa fa) (hb : DE X W tb Ga1 b Ga2 sb fb)
    (fl : sa.flat = true := by rfl) (fl2 : sb.flat = true := by rfl) (s1 : seen1 Ga2 sa = true := by rfl) (s2 : seen1 Ga2 sb = true := by rfl) : DE X W (tOp r ta tb) Ga (.BinOp a op b pos) Ga2 .s (fOp2 g sa sb fa fb) :=
  ⟨fun ii => pe_op (ho ii) (ha.pe ii) (hb.pe ii), Sem.op2i ha.sm hb.sm hr fl fl2 s1 s2⟩
/-! ### + -/
def dAdd : D → D → R D
  | .int i, .int j => .ok (.int (i + j))
  | .lst x, .lst y => if x.length + y.length ≤ 16777216 then .ok (.lst (x ++ y)) else stuck
  | .tup x, .tup y => if x.length + y.length ≤ 16777216 then .ok (.tup (x ++ y)) else stuck
  | .str x, .str y => if x.length + y.length ≤ 16777216 then .ok (.str (x ++ y)) else stuck
  | _, _ => stuck
theorem Inv.sl {X : Cx} {pins : List (Addr × Obj)} {σ : St} {s : Shared} {p : Addr} {xs : List V} (I : Inv X pins σ H s) (h : SL X.K H p xs) :
    ∃ (its : List Value) (n : Nat), Vals xs its ∧ s.heap.get? p = some { cls := .type "list", data := .seq its.toArray n } := by
  rcases h with h | ⟨its, n, hk, _, r⟩
  · obtain ⟨_, its, n, r, e⟩ := h.ok I.hok
    exact ⟨its, n, r, e⟩
  · exact ⟨its, n, r, I.kIn p _ hk⟩
def rCatS (K : PySem.W.Frag) : R2 := fun x y H Q => ∃ p q xs zs, x = .ref p ∧ y = .ref q ∧ SL K H p xs ∧ SL K H q zs ∧ xs.length + zs.length ≤ sizeLine ∧ ∀ l, H l = none → Q (.ref l) (upd H l (.lst (xs ++ zs)))
theorem op_catS {X : Cx} : OpR X (binaryOp .Add) (rCatS X.K) := fun pins s sg H x y u w Q I rx ry h => by
  obtain ⟨p, q, xs, zs, rfl, rfl, h1, h2, hz, k⟩ := h
  cases rx
  cases ry
  obtain ⟨is, n, r1, g1⟩ := Inv.sl I h1
  obtain ⟨js, m, r2, g2⟩ := Inv.sl I h2
  have l1 := r1.length
  have l2 := r2.length
  refine PySem.P.add_list g1 g2 ?_ (by simp only [List.size_toArray]; omega)
  rw [show is.toArray ++ js.toArray = (is ++ js).toArray by simp]
  refine ⟨.ref s.heap.objs.size, upd H s.heap.objs.size (.lst (xs ++ zs)), ?_, rfl, k _ I.fresh⟩
  exact I.lnew (t' := s.toks) (r1.append r2) (by rw [List.length_append]; exact hz)
def rCatQ (K : PySem.W.Frag) : R2 := fun x y H Q => ∃ a b xs ys, x = .ref a ∧ y = .ref b ∧ SqT K H a xs ∧ SqT K H b ys ∧ xs.length + ys.length ≤ sizeLine ∧
  (xs = [] → Q (.ref b) H) ∧ (xs ≠ [] → ys = [] → Q (.ref a) H) ∧ (xs ≠ [] → ys ≠ [] → ∀ p o, H p = none → o.cls = .type "tuple" → o.dict = none → Q (.ref p) (upd H p (.frz o (.tup (xs ++ ys)))))
theorem op_catQ {X : Cx} : OpR X (binaryOp .Add) (rCatQ X.K) := by
  intro pins s sg H x y v u Q I rx ry h
  obtain ⟨a, b, xs, ys, rfl, rfl, ha, hb, hz, q0, q1, q2⟩ := h
  cases rx
  cases ry
  obtain ⟨its, r1, p1, _⟩ := I.tuple ha
  obtain ⟨its2, r2, p2, _⟩ := I.tuple hb
  by_cases hx : xs = []
  · subst hx
    cases r1
    exact cat_tup0 p1 p2 ⟨.ref b, H, I, rfl, q0 rfl⟩
  · refine HT.cat_tup p1 p2 (fun z => hx (r1.nil_iff.mp z)) (fun z => ⟨.ref a, H, I, rfl, q1 hx (r2.nil_iff.mp z)⟩) (fun z => ?_) (by rw [← r1.length, ← r2.length]; exact hz)
    refine ⟨.ref s.heap.objs.size, _, I.laid (t' := s.toks) (o := .frz { cls := .type "tuple", data := .seq ((its ++ its2).toArray) } (.tup (xs ++ ys))) (fun b ob q => Heap.get?_push_of_some _ q) (Nat.le_refl _) ?n, rfl, q2 hx (fun w => z (r2.nil_iff.mpr w)) _ _ (I.hok.fresh (Nat.le_refl _)) rfl rfl⟩
    case n => exact ⟨Heap.get?_push_size _ rfl, by rw [List.length_append]; exact hz, _, r1.append r2, PyProof.Rows.IsTup.new _ _⟩
def rAddA (K : PySem.W.Frag) : R2 := fun x y H Q => (rI0 (fun i j => .int (i + j)) x y H Q ∨ rCatS K x y H Q) ∨ (rCatQ K x y H Q ∨ (∃ i j, x = .str i ∧ y = .str j ∧ i.length + j.length ≤ sizeLine ∧ Q (.str (i ++ j)) H))
theorem op_addA {X : Cx} : OpR X (binaryOp .Add) (rAddA X.K) := (op_add.or op_catS).or (op_catQ.or op_add_str)
theorem o2_add : Op2i B (rAddA B.K) dAdd := fun G H W Ga fps sg rho sa sb d e v w Q a v1 v2 s1 s2 p => by
  unfold dAdd at p
  split at p
  · rename_i i j e1 e2
    exact .inl (.inl ⟨i, j, a.int v1 (seen_of s1) e1, a.int v2 (seen_of s2) e2, Post.flat a p (.int _)⟩)
  · rename_i x y e1 e2
    split at p
    · rename_i hz
      have q1 := a.seq v1 s1 (ds := x) (by rw [e1]; rfl)
      have q2 := a.seq v2 s2 (ds := y) (by rw [e2]; rfl)
      rw [e1] at q1
      rw [e2] at q2
      cases q1 with
      | lst h1 r1 =>
        cases q2 with
        | lst h2 r2 =>
          refine .inl (.inr ⟨_, _, _, _, rfl, rfl, h1, h2, small_line (by rw [r1.length, r2.length]; exact hz), fun l hl => ?_⟩)
          exact p _ _ _ _ _ (Res.new a hl (.lst (SL.of upd_same) ((r1.append r2).mono (Ex.new (a.ex.free hl)))))
    · exact p.elim
  · rename_i x y e1 e2
    split at p
    · rename_i hz
      have q1 := a.seq v1 s1 (ds := x) (by rw [e1]; rfl)
      have q2 := a.seq v2 s2 (ds := y) (by rw [e2]; rfl)
      have rp1 := a.view v1 (seen_of s1)
      have rp2 := a.view v2 (seen_of s2)
      rw [e1] at q1 rp1
      rw [e2] at q2 rp2
      cases q1 with
      | tup h1 r1 =>
        cases q2 with
        | tup h2 r2 =>
          have z1 : ∀ {sh : Sh} {v : V} {d : D} {x : List D}, Val B G H sg sh [] v d → seen1 Ga sh = true → res sh d rho = .tup x → Rep B G v (.tup x) := fun {sh v d x} vl s1 e => by
            cases sh with
            | s =>
              rw [← e]
              exact vl.of_s.2
            | b i =>
              simp only [seen1] at s1
              obtain ⟨_, _, hv⟩ := vl
              split at s1
              · rename_i e0
                obtain ⟨fp, v0, d0, k1, k2, k3, o⟩ := OwnL.get a.own e0
                rw [hv] at k2
                cases k2
                simp only [res] at e
                rw [getD_of k3] at e
                subst e
                simp only [Own] at o
                obtain ⟨_, w, k4, r⟩ := o
                cases k4
                exact r
              · rename_i e0
                obtain ⟨fp, v0, d0, k1, k2, k3, o⟩ := OwnL.get a.own e0
                simp only [res] at e
                rw [getD_of k3] at e
                subst e
                simp only [Own] at o
                obtain ⟨_, _, _, _, _, k, _⟩ := o
                cases k
              · rename_i e0
                obtain ⟨fp, v0, d0, k1, k2, k3, o⟩ := OwnL.get a.own e0
                simp only [res] at e
                rw [getD_of k3] at e
                subst e
                simp only [Own] at o
                obtain ⟨_, _, _, _, _, _, k, _⟩ := o
                cases k
              · cases s1
            | _ => simp [seen1] at s1
          have g1 := z1 v1 s1 e1
          have g2 := z1 v2 s2 e2
          have n1 := r1.length
          have n2 := r2.length
          refine .inr (.inl ⟨_, _, _, _, rfl, rfl, h1, h2, small_line (by rw [n1, n2]; exact hz), fun z => ?_, fun z z2 => ?_, fun z z2 l o hl o1 o2 => ?_⟩)
          · subst z
            have hx : x = [] := by simpa using n1.symm
            subst hx
            exact Post.flat a p g2
          · subst z2
            have hy : y = [] := by simpa using n2.symm
            subst hy
            rw [List.append_nil] at p
            exact Post.flat a p g1
          · exact p _ _ _ _ _ (Res.new a hl (.tup (TQ.of upd_same o1 o2) ((r1.append r2).mono (Ex.new (a.ex.free hl)))))
    · exact p.elim
  · rename_i x y e1 e2
    split at p
    · rename_i hz
      exact .inr (.inr ⟨x, y, a.str v1 (seen_of s1) e1, a.str v2 (seen_of s2) e2, small_line hz, Post.flat a p (.str _)⟩)
    · exact p.elim
  · exact p.elim
/-! ### an item -/
def dIx : D → D → R D := fun x y => match x.seq, y with
  | some ds, .int i => match atI ds i with
    | some d => .ok d
    | none => stuck
  | _, _ => stuck
theorem ixN_lt {n : Nat} {i : Int} {j : Nat} (h : ixN n i = some j) : j < n := (ixN_seq h).2.1
theorem Reps.at {vs : List V} {ds : List D} {i : Int} {d : D} (r : Reps B G vs ds) (h : atI ds i = some d) : ∃ v, atI vs i = some v ∧ Rep B G v d := by
  unfold atI at h ⊢
  rw [r.length]
  cases e : ixN ds.length i with
  | none =>
    rw [e] at h
    cases h
  | some j =>
    rw [e] at h
    exact r.get h
theorem o2_ix : Op2i B (rIx B.K) dIx := fun G H W Ga fps sg rho sa sb d e v w Q a v1 v2 s1 s2 p => by
  unfold dIx at p
  split at p
  · rename_i ds i e1 e2
    split at p
    · rename_i d0 e3
      have q := a.seq v1 s1 e1
      have hw := a.int v2 (seen_of s2) e2
      generalize res sa d rho = z at q e1
      cases q with
      | lst h r =>
        obtain ⟨x, hx, rx⟩ := r.at e3
        exact .inl ⟨_, _, i, x, rfl, hw, h.sq, hx, Post.flat a p rx⟩
      | tup h r =>
        obtain ⟨x, hx, rx⟩ := r.at e3
        exact .inr (.inl ⟨_, _, i, x, rfl, hw, h, hx, Post.flat a p rx⟩)
    · exact p.elim
  · exact p.elim
theorem DE.ix (ha : DE X W ta Ga a Ga1 sa fa) (hb : DE X W tb Ga1 b Ga2 sb fb) (fl : sa.flat = true := by rfl) (fl2 : sb.flat = true := by rfl) (s1 : seen1 Ga2 sa = true := by rfl) (s2 : seen1 Ga2 sb = true := by rfl)
    (hs : PlainIx b := by exact fun _ _ => rfl) : DE X W (tOp (rIx X.K) ta tb) Ga (.Subscript a b pos) Ga2 .s (fOp2 dIx sa sb fa fb) :=
  ⟨fun ii => pe_ix ix_seq (ha.pe ii) (hb.pe ii) hs, Sem.op2i ha.sm hb.sm o2_ix fl fl2 s1 s2⟩
end

/-! ### calls of built-in things -/
def CallD (B : Bd) (r : List V → Hp → VK → Prop) (g : List D → R D) : Prop := ∀ (G H : Hp) (W : WX) (Ga : List Sh) (fps : List (List Addr)) (sg : St) (rho : List D) (shs : List Sh) (ds : List D) (vs : List V) (Q : VK),
  At B G H Ga fps sg rho → ValL B G H sg shs vs ds → shs.all (seen1 Ga) = true → Post B W Ga .s sg G H fps.flatten Q (lift (g (List.zipWith (fun sh d => res sh d rho) shs ds)) rho) → r vs H Q
def fCall (g : List D → R D) (shs : List Sh) (fs : Fs) : Fx := fArgs fs fun ds rho => lift (g (List.zipWith (fun sh d => res sh d rho) shs ds)) rho
section
variable {I : Type} {X : Cf I} {W : WX} {Ga Ga1 Ga2 Ga3 : List Sh} {sa sb sc sh : Sh} {fa fb fc : Fx} {a b c e : Expr} {ta tb tc te : TE} {pos p : Pos} {tr : TA} {shs : List Sh} {es : List Expr} {fs : Fs} {id T : String} {x : Str} {r : List V → Hp → VK → Prop} {g : List D → R D}
theorem Sem.call (h : SemA B W tr Ga Ga1 shs fs) (hr : CallD B r g) (f : shs.all (seen1 Ga1) = true) : Sem B W (tCB r tr) Ga Ga1 .s (fCall g shs fs) :=
  h.args fun G H fps sg rho ds vs Q a vl p => hr G H W Ga1 fps sg rho shs ds vs Q a vl f p
theorem DE.callB (hc : ∀ ii, CallR (X.at ii) (.builtin id) r) (hr : CallD (bd X) r g) (hv : bootBuiltins x = some (.builtin id)) (hm : X.mg x = none) (ha : DA X W tr Ga (e :: es) Ga1 shs fs) (f : shs.all (seen1 Ga1) = true := by rfl) (hg : ∀ ii, Gl (X.at ii) x := by intro _; rfl)
    (hn : x ≠ "__name__" := by decide) (hdb : (x == ("__debug__" : Str)) = false := by decide) (he : ∀ ii, starEach (e :: es) (X.env ii) = (false, eval e (X.env ii)) :: starEach es (X.env ii) := by intro _; rfl) (hpl : ∀ ii, (backTo pos (starEach es (X.env ii))).any (·.1) = false := by intro _; rfl) :
    DE X W (tCB r tr) Ga (.Call (.Name x p) (e :: es) [] pos) Ga1 .s (fCall g shs fs) := ⟨fun ii => pe_callB (hc ii) (hg ii) hm hv (ha.pe ii) hn hdb (he ii) (hpl ii), Sem.call ha.sm hr f⟩
theorem DE.callT (hc : ∀ ii, CallR (X.at ii) (.type T) r) (hr : CallD (bd X) r g) (hv : bootBuiltins x = some (.type T)) (hm : X.mg x = none) (ha : DA X W tr Ga (e :: es) Ga1 shs fs) (f : shs.all (seen1 Ga1) = true := by rfl) (hg : ∀ ii, Gl (X.at ii) x := by intro _; rfl)
    (hn : x ≠ "__name__" := by decide) (hdb : (x == ("__debug__" : Str)) = false := by decide) (he : ∀ ii, starEach (e :: es) (X.env ii) = (false, eval e (X.env ii)) :: starEach es (X.env ii) := by intro _; rfl) (hpl : ∀ ii, (backTo pos (starEach es (X.env ii))).any (·.1) = false := by intro _; rfl) :
    DE X W (tCB r tr) Ga (.Call (.Name x p) (e :: es) [] pos) Ga1 .s (fCall g shs fs) := ⟨fun ii => pe_callTy (hc ii) (hg ii) hm hv (ha.pe ii) hn hdb (he ii) (hpl ii), Sem.call ha.sm hr f⟩
end
end EB
namespace EB
open PySem L2
variable {B : Bd} {G G' G1 G2 G3 H H' H1 H2 H3 : Hp} {A A1 A2 A3 F : List Addr}

/-! ### lists of whole numbers, of truths -/
def D.ints : List D → Option (List Int)
  | [] => some []
  | .int i :: r => (D.ints r).map (i :: ·)
  | _ :: _ => none
def D.bls : List D → Option (List Bool)
  | [] => some []
  | .bl i :: r => (D.bls r).map (i :: ·)
  | _ :: _ => none
theorem ints_map : ∀ ns : List Int, D.ints (ns.map D.int) = some ns
  | [] => rfl
  | n :: ns => by
    rw [List.map_cons]
    unfold D.ints
    rw [ints_map ns]
    rfl
theorem ints_eq : ∀ {ds : List D} {ns : List Int}, D.ints ds = some ns → ds = ns.map D.int
  | [], _, h => by
    cases h
    rfl
  | .int i :: r, ns, h => by
    simp only [D.ints, Option.map_eq_some_iff] at h
    obtain ⟨ms, e, rfl⟩ := h
    rw [ints_eq e]
    rfl
  | .non :: _, _, h => by simp [D.ints] at h
  | .bl _ :: _, _, h => by simp [D.ints] at h
  | .str _ :: _, _, h => by simp [D.ints] at h
  | .tup _ :: _, _, h => by simp [D.ints] at h
  | .lst _ :: _, _, h => by simp [D.ints] at h
  | .dct _ _ :: _, _, h => by simp [D.ints] at h
  | .ins _ _ _ :: _, _, h => by simp [D.ints] at h
theorem bls_map : ∀ ns : List Bool, D.bls (ns.map D.bl) = some ns
  | [] => rfl
  | n :: ns => by
    rw [List.map_cons]
    unfold D.bls
    rw [bls_map ns]
    rfl
theorem bls_eq : ∀ {ds : List D} {ns : List Bool}, D.bls ds = some ns → ds = ns.map D.bl
  | [], _, h => by
    cases h
    rfl
  | .bl i :: r, ns, h => by
    simp only [D.bls, Option.map_eq_some_iff] at h
    obtain ⟨ms, e, rfl⟩ := h
    rw [bls_eq e]
    rfl
  | .non :: _, _, h => by simp [D.bls] at h
  | .int _ :: _, _, h => by simp [D.bls] at h
  | .str _ :: _, _, h => by simp [D.bls] at h
  | .tup _ :: _, _, h => by simp [D.bls] at h
  | .lst _ :: _, _, h => by simp [D.bls] at h
  | .dct _ _ :: _, _, h => by simp [D.bls] at h
  | .ins _ _ _ :: _, _, h => by simp [D.bls] at h
theorem Reps.ints : ∀ {ns : List Int} {vs : List V}, Reps B G vs (ns.map D.int) → vs = ns.map V.int
  | [], _, h => by
    cases h
    rfl
  | n :: ns, _, h => by
    cases h with
    | cons h r =>
      cases h
      rw [Reps.ints r]
      rfl
theorem Reps.bls : ∀ {ns : List Bool} {vs : List V}, Reps B G vs (ns.map D.bl) → vs = ns.map V.bl
  | [], _, h => by
    cases h
    rfl
  | n :: ns, _, h => by
    cases h with
    | cons h r =>
      cases h
      rw [Reps.bls r]
      rfl
section
variable {Ga : List Sh} {fps : List (List Addr)} {sg : St} {rho : List D} {sh : Sh} {v : V} {d : D} {shs : List Sh} {vs : List V} {ds : List D}
/-- one argument -/
theorem ValL.one {x : D} (h : ValL B G H sg shs vs ds) (e : List.zipWith (fun sh d => res sh d rho) shs ds = [x]) : ∃ sh v d, shs = [sh] ∧ vs = [v] ∧ ds = [d] ∧ res sh d rho = x ∧ Val B G H sg sh [] v d := by
  cases h with
  | nil => cases e
  | cons h r =>
    cases r with
    | nil =>
      simp at e
      exact ⟨_, _, _, rfl, rfl, rfl, e, h⟩
    | cons _ _ => simp at e
theorem ValL.two {x y : D} (h : ValL B G H sg shs vs ds) (e : List.zipWith (fun sh d => res sh d rho) shs ds = [x, y]) :
    ∃ sh v d sh2 v2 d2, shs = [sh, sh2] ∧ vs = [v, v2] ∧ ds = [d, d2] ∧ res sh d rho = x ∧ res sh2 d2 rho = y ∧ Val B G H sg sh [] v d ∧ Val B G H sg sh2 [] v2 d2 := by
  cases h with
  | nil => cases e
  | cons h r =>
    cases r with
    | nil => simp at e
    | cons h2 r =>
      cases r with
      | nil =>
        simp at e
        exact ⟨_, _, _, _, _, _, rfl, rfl, rfl, e.1, e.2, h, h2⟩
      | cons _ _ => simp at e
end
/-! ### len -/
def dLen : List D → R D
  | [.lst ds] => .ok (.int ds.length)
  | [.tup ds] => .ok (.int ds.length)
  | [.str x] => if x.length ≤ 16777216 then .ok (.int x.length) else stuck
  | [.dct ks _] => .ok (.int ks.length)
  | _ => stuck
def rLenA (K : PySem.W.Frag) : List V → Hp → VK → Prop := fun xs H Q => (∃ p ys, xs = [.ref p] ∧ (SqL K H p ys ∨ SqT K H p ys) ∧ Q (.int ys.length) H) ∨ ((∃ z, xs = [.str z] ∧ z.length ≤ sizeLine ∧ Q (.int z.length) H) ∨ ∃ a kvs, xs = [V.ref a] ∧ H a = some (.dK kvs) ∧ Q (.int kvs.length) H)
theorem call_lenA {X : Cx} : CallR X (.builtin "len") (rLenA X.K) := call_len_seq.or (call_len_str.or call_lenD)
theorem cd_len : CallD B (rLenA B.K) dLen := fun G H W Ga fps sg rho shs ds vs Q a vl f p => by
  unfold dLen at p
  split at p
  · rename_i xs e
    obtain ⟨sh, v, d, rfl, rfl, rfl, e1, v1⟩ := vl.one e
    obtain ⟨G1, _, x1, r⟩ := a.view v1 (seen_of (by simpa using f))
    rw [e1] at r
    cases r with
    | lst h r =>
      refine .inl ⟨_, _, rfl, .inl (x1.sl h).sq, ?_⟩
      rw [r.length]
      exact Post.flat a p (.int _)
  · rename_i xs e
    obtain ⟨sh, v, d, rfl, rfl, rfl, e1, v1⟩ := vl.one e
    obtain ⟨G1, _, x1, r⟩ := a.view v1 (seen_of (by simpa using f))
    rw [e1] at r
    cases r with
    | tup h r =>
      refine .inl ⟨_, _, rfl, .inr (x1.sqt h.sqt), ?_⟩
      rw [r.length]
      exact Post.flat a p (.int _)
  · rename_i x e
    obtain ⟨sh, v, d, rfl, rfl, rfl, e1, v1⟩ := vl.one e
    have hv := a.str v1 (seen_of (by simpa using f)) e1
    subst hv
    split at p
    · rename_i hz
      exact .inr (.inl ⟨x, rfl, small_line hz, Post.flat a p (.int _)⟩)
    · exact p.elim
  · rename_i ks xs e
    obtain ⟨sh, v, d, rfl, rfl, rfl, e1, v1⟩ := vl.one e
    obtain ⟨G1, _, x1, r⟩ := a.view v1 (seen_of (by simpa using f))
    rw [e1] at r
    cases r with
    | dct h hk r =>
      refine .inr (.inr ⟨_, _, rfl, x1 _ _ h, ?_⟩)
      rw [← List.length_map (f := (·.1)), hk]
      exact Post.flat a p (.int _)
  · exact p.elim
/-! ### sum, all, any -/
def dSum : List D → R D
  | [.lst ds] => match D.ints ds with
    | some ns => .ok (.int ns.sum)
    | none => stuck
  | _ => stuck
def dAll : List D → R D
  | [.lst ds] => match D.bls ds with
    | some ns => .ok (.bl (ns.all id))
    | none => stuck
  | _ => stuck
def dAny : List D → R D
  | [.lst ds] => match D.bls ds with
    | some ns => .ok (.bl (ns.any id))
    | none => stuck
  | _ => stuck
theorem cd_sum : CallD B (rSum B.K) dSum := fun G H W Ga fps sg rho shs ds vs Q a vl f p => by
  unfold dSum at p
  split at p
  · rename_i xs e
    obtain ⟨sh, v, d, rfl, rfl, rfl, e1, v1⟩ := vl.one e
    obtain ⟨G1, _, x1, r⟩ := a.view v1 (seen_of (by simpa using f))
    rw [e1] at r
    split at p
    · rename_i ns en
      rw [ints_eq en] at r
      cases r with
      | lst h r =>
        rw [r.ints] at h
        exact ⟨_, ns, rfl, (x1.sl h).sq, Post.flat a p (.int _)⟩
    · exact p.elim
  · exact p.elim
theorem cd_all : CallD B (rAll B.K) dAll := fun G H W Ga fps sg rho shs ds vs Q a vl f p => by
  unfold dAll at p
  split at p
  · rename_i xs e
    obtain ⟨sh, v, d, rfl, rfl, rfl, e1, v1⟩ := vl.one e
    obtain ⟨G1, _, x1, r⟩ := a.view v1 (seen_of (by simpa using f))
    rw [e1] at r
    split at p
    · rename_i ns en
      rw [bls_eq en] at r
      cases r with
      | lst h r =>
        rw [r.bls] at h
        exact ⟨_, ns, rfl, (x1.sl h).sq, Post.flat a p (.bl _)⟩
    · exact p.elim
  · exact p.elim
theorem cd_any : CallD B (rAny B.K) dAny := fun G H W Ga fps sg rho shs ds vs Q a vl f p => by
  unfold dAny at p
  split at p
  · rename_i xs e
    obtain ⟨sh, v, d, rfl, rfl, rfl, e1, v1⟩ := vl.one e
    obtain ⟨G1, _, x1, r⟩ := a.view v1 (seen_of (by simpa using f))
    rw [e1] at r
    split at p
    · rename_i ns en
      rw [bls_eq en] at r
      cases r with
      | lst h r =>
        rw [r.bls] at h
        exact ⟨_, ns, rfl, (x1.sl h).sq, Post.flat a p (.bl _)⟩
    · exact p.elim
  · exact p.elim
/-! ### max, min of two; of a list -/
def dMax2 : List D → R D
  | [.int i, .int j] => .ok (.int (max i j))
  | _ => stuck
def dMin2 : List D → R D
  | [.int i, .int j] => .ok (.int (min i j))
  | _ => stuck
theorem cd_max2 : CallD B (fun xs H Q => ∃ i j, xs = [.int i, .int j] ∧ Q (.int (if j > i then j else i)) H) dMax2 := fun G H W Ga fps sg rho shs ds vs Q a vl f p => by
  unfold dMax2 at p
  split at p
  · rename_i i j e
    obtain ⟨sh, v, d, sh2, v2, d2, rfl, rfl, rfl, e1, e2, w1, w2⟩ := vl.two e
    simp only [List.all_cons, List.all_nil, Bool.and_true, Bool.and_eq_true] at f
    have h1 := a.int w1 (seen_of f.1) e1
    have h2 := a.int w2 (seen_of f.2) e2
    subst h1 h2
    refine ⟨i, j, rfl, ?_⟩
    rw [show (if j > i then j else i) = max i j by
      split <;> omega]
    exact Post.flat a p (.int _)
  · exact p.elim
theorem cd_min2 : CallD B (fun xs H Q => ∃ i j, xs = [.int i, .int j] ∧ Q (.int (if j < i then j else i)) H) dMin2 := fun G H W Ga fps sg rho shs ds vs Q a vl f p => by
  unfold dMin2 at p
  split at p
  · rename_i i j e
    obtain ⟨sh, v, d, sh2, v2, d2, rfl, rfl, rfl, e1, e2, w1, w2⟩ := vl.two e
    simp only [List.all_cons, List.all_nil, Bool.and_true, Bool.and_eq_true] at f
    have h1 := a.int w1 (seen_of f.1) e1
    have h2 := a.int w2 (seen_of f.2) e2
    subst h1 h2
    refine ⟨i, j, rfl, ?_⟩
    rw [show (if j < i then j else i) = min i j by
      split <;> omega]
    exact Post.flat a p (.int _)
  · exact p.elim
def imax : List Int → Int
  | [] => 0
  | [x] => x
  | x :: y :: r => max x (imax (y :: r))
def imin : List Int → Int
  | [] => 0
  | [x] => x
  | x :: y :: r => min x (imin (y :: r))
theorem imax_spec : ∀ {ns : List Int}, ns ≠ [] → imax ns ∈ ns ∧ ∀ y ∈ ns, y ≤ imax ns
  | [], h => absurd rfl h
  | [x], _ => by simp [imax]
  | x :: y :: r, _ => by
    obtain ⟨h1, h2⟩ := imax_spec (ns := y :: r) (by simp)
    unfold imax
    refine ⟨?_, fun z hz => ?_⟩
    · by_cases h : x ≤ imax (y :: r)
      · rw [show max x (imax (y :: r)) = imax (y :: r) by omega]
        exact List.mem_cons_of_mem _ h1
      · rw [show max x (imax (y :: r)) = x by omega]
        exact List.mem_cons_self
    · rcases List.mem_cons.mp hz with e | e
      · subst e
        omega
      · have := h2 z e
        omega
theorem imin_spec : ∀ {ns : List Int}, ns ≠ [] → imin ns ∈ ns ∧ ∀ y ∈ ns, imin ns ≤ y
  | [], h => absurd rfl h
  | [x], _ => by simp [imin]
  | x :: y :: r, _ => by
    obtain ⟨h1, h2⟩ := imin_spec (ns := y :: r) (by simp)
    unfold imin
    refine ⟨?_, fun z hz => ?_⟩
    · by_cases h : imin (y :: r) ≤ x
      · rw [show min x (imin (y :: r)) = imin (y :: r) by omega]
        exact List.mem_cons_of_mem _ h1
      · rw [show min x (imin (y :: r)) = x by omega]
        exact List.mem_cons_self
    · rcases List.mem_cons.mp hz with e | e
      · subst e
        omega
      · have := h2 z e
        omega
def dMaxL : List D → R D
  | [.lst ds] => match D.ints ds with
    | some (n :: ns) => .ok (.int (imax (n :: ns)))
    | _ => stuck
  | _ => stuck
def dMinL : List D → R D
  | [.lst ds] => match D.ints ds with
    | some (n :: ns) => .ok (.int (imin (n :: ns)))
    | _ => stuck
  | _ => stuck
theorem cd_maxL : CallD B (rMax B.K) dMaxL := fun G H W Ga fps sg rho shs ds vs Q a vl f p => by
  unfold dMaxL at p
  split at p
  · rename_i xs e
    obtain ⟨sh, v, d, rfl, rfl, rfl, e1, v1⟩ := vl.one e
    obtain ⟨G1, _, x1, r⟩ := a.view v1 (seen_of (by simpa using f))
    rw [e1] at r
    split at p
    · rename_i n ns en
      rw [ints_eq en] at r
      cases r with
      | lst h r =>
        rw [r.ints] at h
        refine ⟨_, n :: ns, rfl, (x1.sl h).sq, by simp, fun m hm hle => ?_⟩
        obtain ⟨q1, q2⟩ := imax_spec (ns := n :: ns) (by simp)
        rw [show m = imax (n :: ns) from Int.le_antisymm (q2 m hm) (hle _ q1)]
        exact Post.flat a p (.int _)
    · exact p.elim
  · exact p.elim
theorem cd_minL : CallD B (rMin B.K) dMinL := fun G H W Ga fps sg rho shs ds vs Q a vl f p => by
  unfold dMinL at p
  split at p
  · rename_i xs e
    obtain ⟨sh, v, d, rfl, rfl, rfl, e1, v1⟩ := vl.one e
    obtain ⟨G1, _, x1, r⟩ := a.view v1 (seen_of (by simpa using f))
    rw [e1] at r
    split at p
    · rename_i n ns en
      rw [ints_eq en] at r
      cases r with
      | lst h r =>
        rw [r.ints] at h
        refine ⟨_, n :: ns, rfl, (x1.sl h).sq, by simp, fun m hm hle => ?_⟩
        obtain ⟨q1, q2⟩ := imin_spec (ns := n :: ns) (by simp)
        rw [show m = imin (n :: ns) from Int.le_antisymm (hle _ q1) (q2 m hm)]
        exact Post.flat a p (.int _)
    · exact p.elim
  · exact p.elim
/-! ### int -/
def dInt : List D → R D
  | [.int i] => .ok (.int i)
  | [.bl b] => .ok (.int (if b then 1 else 0))
  | _ => stuck
theorem cd_int : CallD B (fun xs H Q => (∃ i, xs = [.int i] ∧ Q (.int i) H) ∨ ∃ k, xs = [.bl k] ∧ Q (.int (if k then 1 else 0)) H) dInt := fun G H W Ga fps sg rho shs ds vs Q a vl f p => by
  unfold dInt at p
  split at p
  · rename_i i e
    obtain ⟨sh, v, d, rfl, rfl, rfl, e1, v1⟩ := vl.one e
    have hv := a.int v1 (seen_of (by simpa using f)) e1
    subst hv
    exact .inl ⟨i, rfl, Post.flat a p (.int _)⟩
  · rename_i i e
    obtain ⟨sh, v, d, rfl, rfl, rfl, e1, v1⟩ := vl.one e
    have hv := a.bl v1 (seen_of (by simpa using f)) e1
    subst hv
    exact .inr ⟨i, rfl, Post.flat a p (.int _)⟩
  · exact p.elim
/-! ### tuple(..), list(..) -/
def dTupOf : List D → R D
  | [.lst ds] => .ok (.tup ds)
  | [.tup ds] => .ok (.tup ds)
  | _ => stuck
def dLstOf : List D → R D
  | [.lst ds] => .ok (.lst ds)
  | [.tup ds] => .ok (.lst ds)
  | _ => stuck
theorem At.seqL {Ga : List Sh} {fps : List (List Addr)} {sg : St} {rho : List D} {sh : Sh} {v : V} {d : D} {ds : List D} (a : At B G H Ga fps sg rho) (h : Val B G H sg sh [] v d) (s : seen1 Ga sh = true) (e : res sh d rho = .lst ds) :
    ∃ l vs, v = .ref l ∧ SL B.K H l vs ∧ Reps B G vs ds := by
  have q := a.seq h s (ds := ds) (by rw [e]; rfl)
  rw [e] at q
  cases q with
  | lst hl r => exact ⟨_, _, rfl, hl, r⟩
theorem At.seqT {Ga : List Sh} {fps : List (List Addr)} {sg : St} {rho : List D} {sh : Sh} {v : V} {d : D} {ds : List D} (a : At B G H Ga fps sg rho) (h : Val B G H sg sh [] v d) (s : seen1 Ga sh = true) (e : res sh d rho = .tup ds) :
    Rep B G v (.tup ds) := by
  cases sh with
  | s =>
    rw [← e]
    exact h.of_s.2
  | b i =>
    simp only [seen1] at s
    obtain ⟨_, _, hv⟩ := h
    simp only [res] at e
    split at s
    · rename_i e0
      obtain ⟨fp, v0, d0, k1, k2, k3, o⟩ := OwnL.get a.own e0
      rw [hv] at k2
      cases k2
      rw [getD_of k3] at e
      subst e
      simp only [Own] at o
      obtain ⟨_, w, k4, r⟩ := o
      cases k4
      exact r
    · rename_i e0
      obtain ⟨fp, v0, d0, k1, k2, k3, o⟩ := OwnL.get a.own e0
      rw [getD_of k3] at e
      subst e
      simp only [Own] at o
      obtain ⟨_, _, _, _, _, k, _⟩ := o
      cases k
    · rename_i e0
      obtain ⟨fp, v0, d0, k1, k2, k3, o⟩ := OwnL.get a.own e0
      rw [getD_of k3] at e
      subst e
      simp only [Own] at o
      obtain ⟨_, _, _, _, _, _, k, _⟩ := o
      cases k
    · cases s
  | _ => simp [seen1] at s
def rTupOf (K : PySem.W.Frag) : List V → Hp → VK → Prop := fun xs H Q => ∃ p ys, xs = [.ref p] ∧ ((SqL K H p ys ∧ ∀ l o, H l = none → o.cls = .type "tuple" → o.dict = none → Q (.ref l) (upd H l (.frz o (.tup ys)))) ∨ (SqT K H p ys ∧ Q (.ref p) H))
theorem call_tupQ {X : Cx} : CallR X (.type "tuple") (rTupOf X.K) := by
  intro pins s sg H xs us Q I r h
  obtain ⟨p, ys, rfl, h⟩ := h
  obtain ⟨u, rfl, rx⟩ := vals1 r
  cases rx
  rcases h with ⟨hq, q⟩ | ⟨hq, q⟩
  · obtain ⟨its, r', pl, hz⟩ := I.list hq
    have hlen := r'.length
    refine call_tuple_list pl.isList (fun h' kp => ?_) (by simp only [List.size_toArray] <;> omega)
    have I1 : Inv X pins sg H { s with heap := h' } := I.kept (t' := s.toks) kp
    have I2 : Inv X pins sg (upd H h'.objs.size (.frz { cls := .type "tuple", data := .seq its.toArray } (.tup ys))) { s with heap := h'.push { cls := .type "tuple", data := .seq its.toArray } } :=
      I1.laid (t' := s.toks) (fun b o e => Heap.get?_push_of_some _ e) (Nat.le_refl _) (show ObjOk X.prog X.w _ _ _ (.frz _ (.tup ys)) from ⟨Heap.get?_push_size _ rfl, hz, its, r', PyProof.Rows.IsTup.new _ _⟩)
    exact ⟨.ref h'.objs.size, _, I2, rfl, q _ _ (I1.hok.fresh (Nat.le_refl _)) rfl rfl⟩
  · obtain ⟨its, r', pl, hz⟩ := I.tuple hq
    exact call_tuple_same pl ⟨.ref p, H, I, rfl, q⟩
def rLstOf (K : PySem.W.Frag) : List V → Hp → VK → Prop := fun xs H Q => ∃ p ys, xs = [.ref p] ∧ (SqL K H p ys ∨ SqT K H p ys) ∧ ∀ l, H l = none → Q (.ref l) (upd H l (.lst ys))
theorem cd_tupOf : CallD B (rTupOf B.K) dTupOf := fun G H W Ga fps sg rho shs ds vs Q a vl f p => by
  unfold dTupOf at p
  split at p
  · rename_i xs e
    obtain ⟨sh, v, d, rfl, rfl, rfl, e1, v1⟩ := vl.one e
    obtain ⟨l, vs, rfl, h, r⟩ := a.seqL v1 (by simpa using f) e1
    exact ⟨l, vs, rfl, .inl ⟨h.sq, fun q o hq o1 o2 => p _ _ _ _ _ (Res.new a hq (.tup (TQ.of upd_same o1 o2) (r.mono (Ex.new (a.ex.free hq)))))⟩⟩
  · rename_i xs e
    obtain ⟨sh, v, d, rfl, rfl, rfl, e1, v1⟩ := vl.one e
    have r := a.seqT v1 (by simpa using f) e1
    have r0 := r
    cases r with
    | tup h r => exact ⟨_, _, rfl, .inr ⟨a.ex.sqt h.sqt, Post.flat a p r0⟩⟩
  · exact p.elim
theorem cd_lstOf : CallD B (rLstOf B.K) dLstOf := fun G H W Ga fps sg rho shs ds vs Q a vl f p => by
  unfold dLstOf at p
  split at p
  · rename_i xs e
    obtain ⟨sh, v, d, rfl, rfl, rfl, e1, v1⟩ := vl.one e
    obtain ⟨l, vs, rfl, h, r⟩ := a.seqL v1 (by simpa using f) e1
    exact ⟨l, vs, rfl, .inl h.sq, fun q hq => p _ _ _ _ _ (Res.new a hq (.lst (SL.of upd_same) (r.mono (Ex.new (a.ex.free hq)))))⟩
  · rename_i xs e
    obtain ⟨sh, v, d, rfl, rfl, rfl, e1, v1⟩ := vl.one e
    have r := a.seqT v1 (by simpa using f) e1
    cases r with
    | tup h r => exact ⟨_, _, rfl, .inr (a.ex.sqt h.sqt), fun q hq => p _ _ _ _ _ (Res.new a hq (.lst (SL.of upd_same) (r.mono (Ex.new (a.ex.free hq)))))⟩
  · exact p.elim
/-! ### isinstance of built-in types -/
inductive Ty where
  | int | bool | tuple | list | str | dict
def Ty.nm : Ty → String
  | .int => "int"
  | .bool => "bool"
  | .tuple => "tuple"
  | .list => "list"
  | .str => "str"
  | .dict => "dict"
def D.isTy : Ty → D → Option Bool
  | _, .ins _ _ _ => none
  | .int, .int _ => some true
  | .int, .bl _ => some true
  | .bool, .bl _ => some true
  | .tuple, .tup _ => some true
  | .list, .lst _ => some true
  | .str, .str _ => some true
  | .dict, .dct _ _ => some true
  | _, _ => some false
def D.tyn : D → String
  | .non => "NoneType"
  | .bl _ => "bool"
  | .int _ => "int"
  | .str _ => "str"
  | .tup _ => "tuple"
  | .lst _ => "list"
  | .dct _ _ => "dict"
  | .ins _ _ _ => ""
theorem kit_all : ((["NoneType", "bool", "int", "str", "tuple", "list", "dict"].all fun a => ["int", "bool", "tuple", "list", "str", "dict"].all fun b => kitB a b == some (a == b || (a == "bool" && b == "int"))) = true) := by decide +kernel
theorem kit_ty' (T : Ty) (d : D) (b : Bool) (h : D.isTy T d = some b) : kitB d.tyn T.nm = some b := by
  have k := kit_all
  simp only [List.all_cons, List.all_nil, Bool.and_true, Bool.and_eq_true, beq_iff_eq] at k
  cases T <;> cases d <;> simp only [D.isTy, Option.some.injEq, reduceCtorEq] at h <;> subst h <;> simp only [D.tyn, Ty.nm] <;> simp_all
theorem Rep.ty {v : V} {d : D} {T : Ty} {b : Bool} (x : Ex G H) (r : Rep B G v d) (h : D.isTy T d = some b) : TyX B.K H v (.type d.tyn) := by
  cases r with
  | non => exact .base .non
  | bl _ => exact .base (.bl _)
  | int _ => exact .base (.int _)
  | str _ => exact .base (.str _)
  | tup h2 r =>
    rcases x.sqt h2.sqt with (h | ⟨o, h⟩) | ⟨o, its, n, hk, hc, _⟩
    · exact .base (.tup h)
    · exact .fTuple h
    · exact .kTuple hk hc
  | lst h2 r =>
    rcases x.sl h2 with (h | ⟨o, h⟩) | ⟨its, n, hk, _⟩
    · exact .base (.lst h)
    · exact .base (.frz h)
    · exact .kList hk rfl
  | dct h2 _ _ => exact .base (.dK (x _ _ h2))
  | ins _ _ _ _ => cases T <;> simp [D.isTy] at h
  | exc _ _ => cases T <;> simp [D.isTy] at h
def dIsi (T : Ty) (x : D) : R D := match D.isTy T x with
  | some b => .ok (.bl b)
  | none => stuck
def D.isAny : List Ty → D → Option Bool
  | [], _ => some false
  | T :: Ts, d => match D.isTy T d with
    | some true => some true
    | some false => D.isAny Ts d
    | none => none
def dIsiA (Ts : List Ty) (x : D) : R D := match D.isAny Ts x with
  | some b => .ok (.bl b)
  | none => stuck
def fOp1 (g : D → R D) (sa : Sh) (fa : Fx) : Fx := fUn fa fun d rho => lift (g (res sa d rho)) rho
section
variable {I : Type} {X : Cf I} {W : WX} {Ga Ga1 Ga2 Ga3 : List Sh} {sa sb sc sh : Sh} {fa fb fc : Fx} {a b c e : Expr} {ta tb tc te : TE} {pos p p2 p3 : Pos}
theorem Sem.isi (T : Ty) (ha : Sem B W ta Ga Ga1 sa fa) (fl : sa.flat = true) (s1 : seen Ga1 sa = true) : Sem B W (tCB (rIsi B.K) (tCons ta (tCons (tC (.ty T.nm)) tNil))) Ga Ga1 .s (fOp1 (dIsi T) sa fa) :=
  Sem.un (r := fun x H Q => rIsi B.K [x, .ty T.nm] H Q) ha fl fun G H fps sg rho d v Q a v1 p => by
    unfold dIsi at p
    split at p
    · rename_i b hb
      obtain ⟨G1, _, x1, r⟩ := a.view v1 s1
      exact ⟨v, .ty T.nm, _, _, b, rfl, .ty _, r.ty x1 hb, kit_ty (kit_ty' T _ b hb), Post.flat a p (.bl _)⟩
    · exact p.elim
theorem DE.isi (T : Ty) (hm : X.mg "isinstance" = none) (hmT : X.mg (Str.ofString T.nm) = none) (ha : DE X W ta Ga a Ga1 sa fa) (fl : sa.flat = true := by rfl) (s1 : seen Ga1 sa = true := by rfl)
    (hg : ∀ ii, Gl (X.at ii) "isinstance" := by intro _; rfl) (hgT : ∀ ii, Gl (X.at ii) (Str.ofString T.nm) := by intro _; rfl)
    (he : ∀ ii, starEach (a :: [.Name (Str.ofString T.nm) p2]) (X.env ii) = (false, eval a (X.env ii)) :: starEach [.Name (Str.ofString T.nm) p2] (X.env ii) := by intro _; rfl) (hpl : ∀ ii, (backTo pos (starEach [.Name (Str.ofString T.nm) p2] (X.env ii))).any (·.1) = false := by intro _; rfl) :
    DE X W (tCB (rIsi X.K) (tCons ta (tCons (tC (.ty T.nm)) tNil))) Ga (.Call (.Name "isinstance" p) [a, .Name (Str.ofString T.nm) p2] [] pos) Ga1 .s (fOp1 (dIsi T) sa fa) := by
  have hb : bootBuiltins (Str.ofString T.nm) = some (.type T.nm) := by cases T <;> decide +kernel
  have h1 : (Str.ofString T.nm) ≠ "__name__" := by cases T <;> decide
  have h2 : ((Str.ofString T.nm) == ("__debug__" : Str)) = false := by cases T <;> decide
  exact ⟨fun ii => pe_callB call_isi (hg ii) hm PyProof.Rows.boot_isinstance (pa_cons (ha.pe ii) (pa_cons (pe_bltn (v := .ty T.nm) (hgT ii) hmT hb rfl h1 h2) pa_nil) (he ii)) (by decide) (by decide) (he ii) (hpl ii), Sem.isi T ha.sm fl s1⟩
theorem kit_anys {K : PySem.W.Frag} {d : D} : ∀ {Ts : List Ty} {b : Bool}, D.isAny Ts d = some b → PySem.W.kitAny K (.type d.tyn) (Ts.map fun T => .type T.nm) = some b
  | [], b, h => by
    cases h
    exact kitAny_nil
  | T :: Ts, b, h => by
    unfold D.isAny at h
    split at h
    · rename_i e
      cases h
      exact kitAny_cons (kit_ty (kit_ty' T d true e)) (fun z => nomatch z) (fun _ => rfl)
    · rename_i e
      exact kitAny_cons (kit_ty (kit_ty' T d false e)) (fun _ => kit_anys h) (fun z => nomatch z)
    · cases h
theorem D.isAny_ty {d : D} {b : Bool} : ∀ {Ts : List Ty}, D.isAny Ts d = some b → Ts = [] ∨ ∃ T c, D.isTy T d = some c
  | [], _ => .inl rfl
  | T :: Ts, h => by
    unfold D.isAny at h
    split at h
    · rename_i e
      exact .inr ⟨T, true, e⟩
    · rename_i e
      exact .inr ⟨T, false, e⟩
    · cases h
theorem Sem.isiA (T U : Ty) (ha : Sem B W ta Ga Ga1 sa fa) (fl : sa.flat = true) (s1 : seen Ga1 sa = true) : Sem B W (tCB (rIsiT B.K) (tCons ta (tCons (tTup (tCons (tC (.ty T.nm)) (tCons (tC (.ty U.nm)) tNil))) tNil))) Ga Ga1 .s (fOp1 (dIsiA [T, U]) sa fa) :=
  Sem.un (r := fun x H Q => [V.ty T.nm, .ty U.nm].length ≤ sizeLine ∧ ∀ p, H p = none → rIsiT B.K [x, .ref p] (upd H p (.tup [.ty T.nm, .ty U.nm])) Q) ha fl fun G H fps sg rho d v Q a v1 p => by
    refine ⟨small_line (by show 2 ≤ 16777216; omega), fun q hq => ?_⟩
    unfold dIsiA at p
    split at p
    · rename_i b hb
      obtain ⟨G1, g1, x1, r⟩ := a.view v1 s1
      rcases D.isAny_ty hb with z | ⟨T', c, hc⟩
      · cases z
      · have st : Step G H fps.flatten G (upd H q (.tup [.ty T.nm, .ty U.nm])) fps.flatten := (Step.newOwn hq).sub fun x hx => List.mem_append_left _ hx
        have np : q ∉ fps.flatten := fun z => absurd hq (OwnL.dom a.own q z)
        have av : At B G (upd H q (.tup [.ty T.nm, .ty U.nm])) Ga1 fps sg rho := a.same (Step.newOwn (A := []) hq) (by simp) (a.ex.upd_r (a.ex.free hq))
        exact ⟨v, q, _, _, _, b, rfl, upd_same, .cons (.ty _) (.cons (.ty _) .nil), r.ty (x1.upd_r (x1.free hq)) hc, kit_anys hb, p _ _ _ _ _ ⟨st.sub (by simp), av, .s (.bl _), by simpa using av.nd, by simp⟩⟩
    · exact p.elim
theorem DE.isiA (T U : Ty) (hm : X.mg "isinstance" = none) (hmT : X.mg (Str.ofString T.nm) = none) (hmU : X.mg (Str.ofString U.nm) = none) (ha : DE X W ta Ga a Ga1 sa fa) {x1} (fl : sa.flat = true := by rfl) (s1 : seen Ga1 sa = true := by rfl)
    (hg : ∀ ii, Gl (X.at ii) "isinstance" := by intro _; rfl) (hgT : ∀ ii, Gl (X.at ii) (Str.ofString T.nm) := by intro _; rfl) (hgU : ∀ ii, Gl (X.at ii) (Str.ofString U.nm) := by intro _; rfl)
    (he : ∀ ii, starEach (a :: [.Tuple [.Name (Str.ofString T.nm) p2, .Name (Str.ofString U.nm) p3] x1 p]) (X.env ii) = (false, eval a (X.env ii)) :: starEach [.Tuple [.Name (Str.ofString T.nm) p2, .Name (Str.ofString U.nm) p3] x1 p] (X.env ii) := by intro _; rfl)
    (hpl : ∀ ii, (backTo pos (starEach [.Tuple [.Name (Str.ofString T.nm) p2, .Name (Str.ofString U.nm) p3] x1 p] (X.env ii))).any (·.1) = false := by intro _; rfl) {p4 : Pos} :
    DE X W (tCB (rIsiT X.K) (tCons ta (tCons (tTup (tCons (tC (.ty T.nm)) (tCons (tC (.ty U.nm)) tNil))) tNil))) Ga (.Call (.Name "isinstance" p4) [a, .Tuple [.Name (Str.ofString T.nm) p2, .Name (Str.ofString U.nm) p3] x1 p] [] pos) Ga1 .s (fOp1 (dIsiA [T, U]) sa fa) := by
  have hb : ∀ T : Ty, bootBuiltins (Str.ofString T.nm) = some (.type T.nm) := fun T => by cases T <;> decide +kernel
  have h1 : ∀ T : Ty, (Str.ofString T.nm) ≠ "__name__" := fun T => by cases T <;> decide
  have h2 : ∀ T : Ty, ((Str.ofString T.nm) == ("__debug__" : Str)) = false := fun T => by cases T <;> decide
  exact ⟨fun ii => pe_callB call_isiT (hg ii) hm PyProof.Rows.boot_isinstance (pa_cons (ha.pe ii) (pa_cons (pe_tup (pa_cons (pe_bltn (v := .ty T.nm) (hgT ii) hmT (hb T) rfl (h1 T) (h2 T)) (pa_cons (pe_bltn (v := .ty U.nm) (hgU ii) hmU (hb U) rfl (h1 U) (h2 U)) pa_nil))) pa_nil) (he ii)) (by decide) (by decide) (he ii) (hpl ii), Sem.isiA T U ha.sm fl s1⟩
end
end EB
namespace EB
open PySem L2
variable {B : Bd} {G G' G1 G2 G3 H H' H1 H2 H3 : Hp} {A A1 A2 A3 F : List Addr}

/-- how a block ends -/
inductive Fl where
  | nx (rho : List D) | rt (d : D) (rho : List D) | bk (rho : List D) | ct (rho : List D)
abbrev Fst := List D → R Fl
/-- P: the slots of the owned parameters; M: what is known of them at a return; rs: the result's shape; bk, ct: the shapes at a break, a continue -/
structure Ctl where
  P : List Nat
  M : List Sh
  rs : Sh
  bk : List Sh := []
  ct : List Sh := []
def Kp (P : List Nat) (sg sg1 : St) : Prop := ∀ j ∈ P, sg1[j]? = sg[j]?
theorem Kp.refl (P : List Nat) (sg : St) : Kp P sg sg := fun _ _ => rfl
theorem Kp.trans {P : List Nat} {sg sg1 sg2 : St} (a : Kp P sg sg1) (b : Kp P sg1 sg2) : Kp P sg sg2 := fun j h => (b j h).trans (a j h)

def PostS (B : Bd) (W : WX) (C : Ctl) (Ga : List Sh) (sg : St) (E : Ends) (G H : Hp) (A : List Addr) : R Fl → Prop
  | .ok (.nx rho) => ∀ G1 H1 fps sg1, Step G H A G1 H1 fps.flatten → At B G1 H1 Ga fps sg1 rho → Kp C.P sg sg1 → E.nx sg1 H1
  | .ok (.bk rho) => ∀ G1 H1 fps sg1, Step G H A G1 H1 fps.flatten → At B G1 H1 C.bk fps sg1 rho → Kp C.P sg sg1 → E.bk sg1 H1
  | .ok (.ct rho) => ∀ G1 H1 fps sg1, Step G H A G1 H1 fps.flatten → At B G1 H1 C.ct fps sg1 rho → Kp C.P sg sg1 → E.ct sg1 H1
  | .ok (.rt d rho) => ∀ G1 H1 fps sg1 fp v, Step G H A G1 H1 (fps.flatten ++ fp) → At B G1 H1 C.M fps sg1 rho → Kp C.P sg sg1 → Own B G1 H1 C.rs fp (some v) d → (fps.flatten ++ fp).Nodup → (∀ a ∈ fp, G1 a = none) → E.rt v H1
  | .error (.exc c) => ∀ Cl G1 H1 A1 sg1, B.mg c = some (.ref Cl) → Step G H A G1 H1 A1 → Ex G1 H1 → W (.ref Cl) none sg1 H1
  | .error _ => False
theorem PostS.later {W : WX} {C : Ctl} {Ga : List Sh} {sg sg1 : St} {E : Ends} {r : R Fl} (s : Step G H A G1 H1 A1) (k : Kp C.P sg sg1) (h : PostS B W C Ga sg E G H A r) : PostS B W C Ga sg1 E G1 H1 A1 r := by
  unfold PostS at h ⊢
  split at h
  · exact fun G2 H2 fps sg2 st a k2 => h G2 H2 fps sg2 (s.trans st) a (k.trans k2)
  · exact fun G2 H2 fps sg2 st a k2 => h G2 H2 fps sg2 (s.trans st) a (k.trans k2)
  · exact fun G2 H2 fps sg2 st a k2 => h G2 H2 fps sg2 (s.trans st) a (k.trans k2)
  · exact fun G2 H2 fps sg2 fp v st a k2 => h G2 H2 fps sg2 fp v (s.trans st) a (k.trans k2)
  · exact fun Cl G2 H2 A2 sg2 m st ex => h Cl G2 H2 A2 sg2 m (s.trans st) ex
  · exact h
def SemS (B : Bd) (W : WX) (C : Ctl) (ts : TS) (Ga Ga' : List Sh) (f : Fst) : Prop :=
  ∀ (G H : Hp) (fps : List (List Addr)) (sg : St) (rho : List D) (E : Ends), At B G H Ga fps sg rho → PostS B W C Ga' sg E G H fps.flatten (f rho) → ts E sg H
structure DS {I : Type} (X : Cf I) (W : WX) (C : Ctl) (ts : TS) (Ga : List Sh) (st : Stmt) (Ga' : List Sh) (f : Fst) : Prop where
  pe : ∀ ii, PS (X.at ii) st ts
  sm : SemS (bd X) W C ts Ga Ga' f
structure DB {I : Type} (X : Cf I) (W : WX) (C : Ctl) (ts : TS) (Ga : List Sh) (st : List Stmt) (Ga' : List Sh) (f : Fst) : Prop where
  pe : ∀ ii, PSs (X.at ii) st ts
  sm : SemS (bd X) W C ts Ga Ga' f
theorem PostS.err {W : WX} {C C' : Ctl} {Ga Ga' : List Sh} {sg sg' : St} {E E' : Ends} {e : Er} (h : PostS B W C Ga sg E G H A (.error e)) : PostS B W C' Ga' sg' E' G H A (.error e) := by
  cases e with
  | exc c => exact h
  | stuck => exact h
  | fuel => exact h
theorem PostS.errE {W : WX} {C : Ctl} {Ga Ga' : List Sh} {sg : St} {sh : Sh} {E : Ends} {Q : VK} {e : Er} (h : PostS B W C Ga sg E G H A (.error e)) : Post B W Ga' sh sg G H A Q (.error e) := by
  cases e with
  | exc c => exact fun Cl G1 H1 A1 m st ex => h Cl G1 H1 A1 sg m st ex
  | stuck => exact h
  | fuel => exact h
theorem PostS.errT {W : WX} {C : Ctl} {Ga Ga' : List Sh} {sg : St} {E : Ends} {Q : Bool → Hp → Prop} {e : Er} (h : PostS B W C Ga sg E G H A (.error e)) : PostT B W Ga' sg G H A Q (.error e) := by
  cases e with
  | exc c => exact fun Cl G1 H1 A1 m st ex => h Cl G1 H1 A1 sg m st ex
  | stuck => exact h
  | fuel => exact h

/-! ### giving up what is known -/
def drops (Ga : List Sh) : List Nat → List Sh
  | [] => Ga
  | i :: r => drops (Ga.set i .u) r
def frzs (Ga : List Sh) : List Nat → List Sh
  | [] => Ga
  | i :: r => frzs (Ga.set i .s) r
def frzOk (Ga : List Sh) : List Nat → Bool
  | [] => true
  | i :: r => (match Ga[i]? with | some sh => sh.full | none => false) && frzOk (Ga.set i .s) r
section
variable {Ga : List Sh} {fps : List (List Addr)} {sg : St} {rho : List D}
theorem At.drop (a : At B G H Ga fps sg rho) (i : Nat) : ∃ fps1, Step G H fps.flatten G H fps1.flatten ∧ At B G H (Ga.set i .u) fps1 sg rho := by
  cases e : Ga[i]? with
  | none =>
    have z : Ga.set i .u = Ga := List.set_eq_of_length_le (by simpa using e)
    rw [z]
    exact ⟨fps, Step.refl _ _ _, a⟩
  | some sh =>
    obtain ⟨fp, v, d, e1, e2, e3, o⟩ := a.own.get e
    have ou : Own B G H .u [] v d := by simp [Own]
    have av := a.put (i := i) (sh := .u) (fp := []) (v := v) (d := d) e1 (Ex.refl G) (fun x _ _ o e => e) ou (by simp) (by simp) (by simp) (fun x hx _ => a.gn x hx) a.ex
    rw [set_same e2, set_same e3] at av
    refine ⟨_, ⟨Ex.refl G, fun x h h' => absurd h h', fun _ _ _ e => e, fun _ h => h, fun x hx => ?_⟩, av⟩
    rcases flat_set_sub x hx with z | z
    · simp at z
    · exact .inl z
theorem At.mdrop : ∀ (is : List Nat) {Ga : List Sh} {fps : List (List Addr)}, At B G H Ga fps sg rho → ∃ fps1, Step G H fps.flatten G H fps1.flatten ∧ At B G H (drops Ga is) fps1 sg rho
  | [], _, fps, a => ⟨fps, Step.refl _ _ _, a⟩
  | i :: r, Ga, fps, a => by
    obtain ⟨f1, s1, a1⟩ := a.drop i
    obtain ⟨f2, s2, a2⟩ := At.mdrop r a1
    exact ⟨f2, s1.trans s2, a2⟩
theorem At.frz1 {i : Nat} {sh : Sh} (a : At B G H Ga fps sg rho) (hg : Ga[i]? = some sh) (hf : sh.full = true) : ∃ G1 fps1, Step G H fps.flatten G1 H fps1.flatten ∧ At B G1 H (Ga.set i .s) fps1 sg rho := by
  obtain ⟨fp, v, d, e1, e2, e3, o⟩ := a.own.get hg
  have ⟨m1, m2⟩ := merge_ex (fp := fp) a.ex
  obtain ⟨w, rfl, r⟩ := Own.rep (G' := merge G H fp) m1 hf (fun x hx o e => by rw [merge_in hx]; exact e) o
  have os : Own B (merge G H fp) H .s [] (some w) d := by
    simp only [Own]
    exact ⟨trivial, w, rfl, r⟩
  have av := a.put (i := i) e1 m1 (fun x _ _ o e => e) os (by simp) (by simp) (by simp) (fun x hx hn => by rw [merge_out hn]; exact a.gn x hx) m2
  rw [set_same e2, set_same e3] at av
  refine ⟨_, _, ⟨m1, fun x h1 h2 => ?_, fun _ _ _ e => e, fun _ h => h, fun x hx => ?_⟩, av⟩
  · by_cases z : x ∈ fp
    · exact .inl (flat_mem e1 z)
    · rw [merge_out z] at h2
      exact absurd h1 h2
  · rcases flat_set_sub x hx with z | z
    · simp at z
    · exact .inl z
theorem At.mfrz : ∀ (is : List Nat) {G : Hp} {Ga : List Sh} {fps : List (List Addr)}, At B G H Ga fps sg rho → frzOk Ga is = true → ∃ G1 fps1, Step G H fps.flatten G1 H fps1.flatten ∧ At B G1 H (frzs Ga is) fps1 sg rho
  | [], G, _, fps, a, _ => ⟨G, fps, Step.refl _ _ _, a⟩
  | i :: r, G, Ga, fps, a, h => by
    unfold frzOk at h
    rw [Bool.and_eq_true] at h
    obtain ⟨h1, h2⟩ := h
    split at h1
    · rename_i sh e
      obtain ⟨G1, f1, s1, a1⟩ := a.frz1 e h1
      obtain ⟨G2, f2, s2, a2⟩ := At.mfrz r a1 h2
      exact ⟨G2, f2, s1.trans s2, a2⟩
    · cases h1
/-- to weaker shapes: fs are frozen, then is forgotten -/
theorem At.weak (fs is : List Nat) (a : At B G H Ga fps sg rho) (h : frzOk Ga fs = true) : ∃ G1 fps1, Step G H fps.flatten G1 H fps1.flatten ∧ At B G1 H (drops (frzs Ga fs) is) fps1 sg rho := by
  obtain ⟨G1, f1, s1, a1⟩ := a.mfrz fs h
  obtain ⟨f2, s2, a2⟩ := a1.mdrop is
  exact ⟨G1, f2, s1.trans s2, a2⟩
end
section
variable {I : Type} {X : Cf I} {W : WX} {C : Ctl} {Ga Ga1 Ga2 Ga3 : List Sh} {sa sb sc sh : Sh} {fa fb fc : Fx} {a b c e : Expr} {ta tb tc te : TE} {tt : TT} {cf : Fb} {pos p p2 p3 : Pos} {ts tu : TS} {f g : Fst} {st : Stmt} {rest sts sts2 : List Stmt}
/-! ### blocks -/
def sSeq (f g : Fst) : Fst := fun rho => match f rho with
  | .ok (.nx rho1) => g rho1
  | r => r
def sNil : Fst := fun rho => .ok (.nx rho)
theorem SemS.nil : SemS B W C tNext Ga Ga sNil := fun G H fps sg rho E a p => p G H fps sg (Step.refl _ _ _) a (Kp.refl _ _)
theorem SemS.seq (h1 : SemS B W C ts Ga Ga1 f) (h2 : SemS B W C tu Ga1 Ga2 g) : SemS B W C (tSeq ts tu) Ga Ga2 (sSeq f g) := fun G H fps sg rho E a p => by
  refine h1 G H fps sg rho _ a ?_
  unfold sSeq at p
  cases e : f rho with
  | ok z =>
    rw [e] at p
    cases z with
    | nx rho1 => exact fun G1 H1 fps1 sg1 st1 a1 k1 => h2 G1 H1 fps1 sg1 rho1 E a1 (p.later st1 k1)
    | rt d r => exact p
    | bk r => exact p
    | ct r => exact p
  | error x =>
    rw [e] at p
    exact p.err
theorem DB.nil : DB X W C tNext Ga [] Ga sNil := ⟨fun ii => pss_nil, SemS.nil⟩
theorem DB.cons (h1 : DS X W C ts Ga st Ga1 f) (h2 : DB X W C tu Ga1 rest Ga2 g) : DB X W C (tSeq ts tu) Ga (st :: rest) Ga2 (sSeq f g) := ⟨fun ii => pss_cons (h1.pe ii) (h2.pe ii), h1.sm.seq h2.sm⟩
theorem DB.one (h1 : DS X W C ts Ga st Ga1 f) : DB X W C ts Ga [st] Ga1 f := ⟨fun ii => pss_one (h1.pe ii), h1.sm⟩
/-- ends in weaker shapes -/
theorem SemS.weak (fs is : List Nat) (h : SemS B W C ts Ga Ga1 f) (hf : frzOk Ga1 fs = true) : SemS B W C ts Ga (drops (frzs Ga1 fs) is) f := fun G H fps sg rho E a p => by
  refine h G H fps sg rho E a ?_
  unfold PostS at p ⊢
  split at p
  · intro G1 H1 fps1 sg1 st1 a1 k1
    obtain ⟨G2, f2, s2, a2⟩ := a1.weak fs is hf
    exact p G2 H1 f2 sg1 (st1.trans s2) a2 k1
  · exact p
  · exact p
  · exact p
  · exact p
  · exact p
theorem DB.weak (fs is : List Nat) (h : DB X W C ts Ga sts Ga1 f) (hf : frzOk Ga1 fs = true := by rfl) (hg : drops (frzs Ga1 fs) is = Ga2 := by rfl) : DB X W C ts Ga sts Ga2 f := by
  subst hg
  exact ⟨fun ii => (h.pe ii), h.sm.weak fs is hf⟩
/-- begins in weaker shapes -/
theorem SemS.pre (fs is : List Nat) (h : SemS B W C ts (drops (frzs Ga fs) is) Ga1 f) (hf : frzOk Ga fs = true) : SemS B W C ts Ga Ga1 f := fun G H fps sg rho E a p => by
  obtain ⟨G2, f2, s2, a2⟩ := a.weak fs is hf
  exact h G2 H f2 sg rho E a2 (p.later s2 (Kp.refl _ _))
theorem DS.pre (fs is : List Nat) (h : DS X W C ts Ga2 st Ga1 f) (hf : frzOk Ga fs = true := by rfl) (hg : drops (frzs Ga fs) is = Ga2 := by rfl) : DS X W C ts Ga st Ga1 f := by
  subst hg
  exact ⟨fun ii => (h.pe ii), h.sm.pre fs is hf⟩
/-! an end that is never come to may be called anything -/
def isEnd (f : Fst) : Prop := ∀ rho rho', f rho ≠ .ok (.nx rho')
theorem SemS.any (h : SemS B W C ts Ga Ga1 f) (k : isEnd f) : SemS B W C ts Ga Ga2 f := fun G H fps sg rho E a p => by
  refine h G H fps sg rho E a ?_
  cases e : f rho with
  | ok z =>
    rw [e] at p
    cases z with
    | nx r => exact absurd e (k rho r)
    | _ => exact p
  | error x =>
    rw [e] at p
    exact p.err

/-! ### return -/
def sRet (fa : Fx) : Fst := fun rho => match fa rho with
  | .ok (d, rho1) => .ok (.rt d rho1)
  | .error e => .error e
/-- all but the owned parameters are forgotten -/
def others (n : Nat) (P : List Nat) : List Nat := (List.range n).filter fun i => !P.contains i
theorem SemS.ret (h : Sem B W ta Ga Ga1 sh fa) (hr : sh = C.rs) (ho : sh ≠ .u) (hb : ∀ i, sh ≠ .b i) (hm : drops Ga1 (others Ga1.length C.P) = C.M) : SemS B W C (tRet ta) Ga Ga2 (sRet fa) := fun G H fps sg rho E a p => by
  subst hr
  refine h G H fps sg rho E.rt a ?_
  unfold sRet at p
  cases e : fa rho with
  | ok z =>
    obtain ⟨d, rho1⟩ := z
    rw [e] at p
    intro G1 H1 fps1 fp v r
    obtain ⟨f2, s2, a2⟩ := r.av.mdrop (others Ga1.length C.P)
    rw [hm] at a2
    have vl : Own B G1 H1 C.rs fp (some v) d := by
      have := r.vl
      generalize C.rs = q at this hb
      cases q with
      | b i => exact absurd rfl (hb i)
      | _ => exact this
    have sub : ∀ x ∈ f2.flatten, x ∈ fps1.flatten := fun x hx => by
      rcases s2.foot x hx with z | z
      · exact z
      · exact absurd z (OwnL.dom a2.own x hx)
    have nd := List.nodup_append.mp r.nd
    refine p G1 H1 f2 sg fp v (r.st.sub fun x hx => ?_) a2 (Kp.refl _ _) vl (List.nodup_append.mpr ⟨a2.nd, nd.2.1, fun x hx y hy e => nd.2.2 x (sub x hx) y hy e⟩) r.gn
    rcases List.mem_append.mp hx with z | z
    · exact List.mem_append_left _ (sub x z)
    · exact List.mem_append_right _ z
  | error x =>
    rw [e] at p
    exact p.errE
def Sh.val : Sh → Bool
  | .u => false
  | .b _ => false
  | _ => true
theorem DS.ret (h : DE X W ta Ga e Ga1 sh fa) (hr : sh = C.rs := by rfl) (hv : sh.val = true := by rfl) (hm : drops Ga1 (others Ga1.length C.P) = C.M := by rfl) : DS X W C (tRet ta) Ga (.Return (some e) pos) Ga2 (sRet fa) := by
  refine ⟨fun ii => ps_ret (h.pe ii), SemS.ret h.sm hr (fun z => ?_) (fun i z => ?_) hm⟩
  · rw [z] at hv
    cases hv
  · rw [z] at hv
    cases hv

/-! ### expressions as statements, pass, break, continue -/
def sExpr (fa : Fx) : Fst := fun rho => match fa rho with
  | .ok (_, rho1) => .ok (.nx rho1)
  | .error e => .error e
theorem SemS.expr (h : Sem B W ta Ga Ga1 sh fa) : SemS B W C (tDrop ta) Ga Ga1 (sExpr fa) := fun G H fps sg rho E a p => by
  refine h G H fps sg rho _ a ?_
  unfold sExpr at p
  cases e : fa rho with
  | ok z =>
    obtain ⟨d, rho1⟩ := z
    rw [e] at p
    exact fun G1 H1 fps1 fp v r => p G1 H1 fps1 sg (r.st.sub fun x hx => List.mem_append_left _ hx) r.av (Kp.refl _ _)
  | error x =>
    rw [e] at p
    exact p.errE
theorem DS.expr (h : DE X W ta Ga e Ga1 sh fa) (hs : ∀ ii, swapsWith e none pos.line (X.env ii) = pure false := by intro _; rfl) : DS X W C (tDrop ta) Ga (.Expr e pos) Ga1 (sExpr fa) := ⟨fun ii => ps_expr (h.pe ii) (hs ii), SemS.expr h.sm⟩
theorem DS.pass : DS X W C tNext Ga (.Pass pos) Ga sNil := ⟨fun ii => ps_pass, SemS.nil⟩
def sBk : Fst := fun rho => .ok (.bk rho)
def sCt : Fst := fun rho => .ok (.ct rho)
theorem DS.brk (fs is : List Nat) (hf : frzOk Ga fs = true := by rfl) (hg : drops (frzs Ga fs) is = C.bk := by rfl) : DS X W C tBreak Ga (.Break pos) Ga2 sBk := ⟨fun ii => ps_break, fun G H fps sg rho E a p => by
  obtain ⟨G2, f2, s2, a2⟩ := a.weak fs is hf
  rw [hg] at a2
  exact p G2 H f2 sg s2 a2 (Kp.refl _ _)⟩
theorem DS.cnt (fs is : List Nat) (hf : frzOk Ga fs = true := by rfl) (hg : drops (frzs Ga fs) is = C.ct := by rfl) : DS X W C tCont Ga (.Continue pos) Ga2 sCt := ⟨fun ii => ps_continue, fun G H fps sg rho E a p => by
  obtain ⟨G2, f2, s2, a2⟩ := a.weak fs is hf
  rw [hg] at a2
  exact p G2 H f2 sg s2 a2 (Kp.refl _ _)⟩

/-! ### name = value -/
def sSet (i : Nat) (fa : Fx) : Fst := fun rho => match fa rho with
  | .ok (d, rho1) => .ok (.nx (rho1.set i d))
  | .error e => .error e
theorem kp_set {P : List Nat} {sg : St} {i : Nat} {v : Option V} (h : P.contains i = false) : Kp P sg (sg.set i v) := fun j hj => by
  have : i ≠ j := fun e => by
    subst e
    rw [List.contains_iff_mem.mpr hj] at h
    cases h
  rw [List.getElem?_set_ne this]
/-- a result goes into a slot -/
theorem Res.into {d : D} {rho : List D} {sg : St} {fps : List (List Addr)} {fp : List Addr} {v : V} {i : Nat} (r : Res B Ga sh sg rho d G H A G1 H1 fps fp v) (hs : sh.val = true) (hi : i < Ga.length) :
    ∃ fps1, Step G H A G1 H1 fps1.flatten ∧ At B G1 H1 (Ga.set i sh) fps1 (sg.set i (some v)) (rho.set i d) := by
  have vl : Own B G1 H1 sh fp (some v) d := by
    have := r.vl
    cases sh with
    | b i => cases hs
    | _ => exact this
  obtain ⟨fp0, v0, d0, e1, e2, e3, o⟩ := r.av.own.get (List.getElem?_eq_getElem hi)
  have nd := List.nodup_append.mp r.nd
  have a2 := r.av
  -- fp may stand apart from what is there
  obtain ⟨m1, m2⟩ := flat_set e1 r.av.nd nd.2.1 (fun x hx _ z => nd.2.2 x z x hx rfl)
  refine ⟨fps.set i fp, r.st.sub fun x hx => ?_, ⟨OwnL.put (Ex.refl G1) r.av.own e1 r.av.nd (fun _ _ _ _ e => e) vl, m1, fun x hx => ?_, r.av.ex⟩⟩
  · rcases m2 x hx with z | ⟨z, _⟩
    · exact List.mem_append_right _ z
    · exact List.mem_append_left _ z
  · rcases m2 x hx with z | ⟨z, _⟩
    · exact r.gn x z
    · exact r.av.gn x z
theorem SemS.set {i : Nat} (h : Sem B W ta Ga Ga1 sh fa) (hs : sh.val = true) (hi : i < Ga1.length) (hp : C.P.contains i = false) : SemS B W C (tAsg ta (gName i)) Ga (Ga1.set i sh) (sSet i fa) := fun G H fps sg rho E a p => by
  refine h G H fps sg rho _ a ?_
  unfold sSet at p
  cases e : fa rho with
  | ok z =>
    obtain ⟨d, rho1⟩ := z
    rw [e] at p
    intro G1 H1 fps1 fp v r
    obtain ⟨f2, s2, a2⟩ := r.into hs hi
    exact p G1 H1 f2 _ s2 a2 (kp_set hp)
  | error x =>
    rw [e] at p
    exact p.errE
theorem DS.set (i : Nat) {x : Str} (hN : X.N.Nodup) (h : DE X W ta Ga e Ga1 sh fa) (hv : sh.val = true := by rfl) (hi : (decide (i < Ga1.length)) = true := by rfl) (hp : C.P.contains i = false := by rfl) (hx : X.N[i]? = some x := by rfl)
    (hl : ∀ ii, Loc (X.env ii).scope x := by intro _; first | exact Or.inl rfl | exact Or.inr rfl) (hs : ∀ ii, swapsWith e (some (.Name x p)) pos.line (X.env ii) = pure false := by intro _; rfl) (hf : ∀ ii, X.fn ii x = true ∨ (X.env ii).scope.names.lookup x = some .local := by intro _; first | exact .inl rfl | exact .inr rfl) :
    DS X W C (tAsg ta (gName i)) Ga (.Assign [.Name x p] e pos) (Ga1.set i sh) (sSet i fa) := ⟨fun ii => ps_set hN hx (hl ii) (h.pe ii) (hs ii) (hf ii), SemS.set h.sm hv (of_decide_eq_true hi) hp⟩

/-! ### a, b = value; a, b = x, y -/
def setAll (rho : List D) : List Nat → List D → List D
  | i :: is, d :: ds => setAll (rho.set i d) is ds
  | _, _ => rho
def shAll (Ga : List Sh) : List Nat → List Sh
  | [] => Ga
  | i :: is => shAll (Ga.set i .s) is
def sUnp (is : List Nat) (fa : Fx) : Fst := fun rho => match fa rho with
  | .ok (d, rho1) => match d with
    | .tup ds => if ds.length = is.length then .ok (.nx (setAll rho1 is ds)) else stuck
    | _ => stuck
  | .error e => .error e
def gNames : List Nat → TGs
  | [] => gNil
  | i :: is => gCons (gName i) (gNames is)
theorem At.names : ∀ {is : List Nat} {Ga : List Sh} {fps : List (List Addr)} {sg : St} {rho : List D} {vs : List V} {ds : List D} {Q : St → Hp → Prop}, At B G H Ga fps sg rho → Reps B G vs ds → ds.length = is.length → is.all (fun i => decide (i < Ga.length)) = true →
    (∀ fps1 sg1, (∀ x ∈ fps1.flatten, x ∈ fps.flatten) → At B G H (shAll Ga is) fps1 sg1 (setAll rho is ds) → (∀ j, j ∉ is → sg1[j]? = sg[j]?) → Q sg1 H) → gNames is vs sg H Q
  | [], Ga, fps, sg, rho, vs, ds, Q, a, r, hl, _, k => by
    cases ds with
    | cons _ _ => cases hl
    | nil =>
      cases r
      exact ⟨rfl, k fps sg (fun _ h => h) a fun _ _ => rfl⟩
  | i :: is, Ga, fps, sg, rho, vs, ds, Q, a, r, hl, hi, k => by
    cases r with
    | nil => cases hl
    | @cons v d vs ds h r =>
      simp only [List.all_cons, Bool.and_eq_true, decide_eq_true_eq] at hi
      refine ⟨v, vs, rfl, ?_⟩
      have res : Res B Ga .s sg rho d G H fps.flatten G H fps [] v := Res.pure a h
      obtain ⟨f2, s2, a2⟩ := res.into rfl hi.1
      refine At.names a2 r (by simpa using hl) (by simpa using hi.2) fun f3 sg3 sub a3 kk => ?_
      refine k f3 sg3 (fun x hx => ?_) a3 fun j hj => ?_
      · rcases s2.foot x (sub x hx) with z | z
        · exact z
        · exact absurd z (OwnL.dom a2.own x (sub x hx))
      · simp only [List.mem_cons, not_or] at hj
        rw [kk j hj.2, List.getElem?_set_ne (fun e => hj.1 e.symm)]
theorem SemS.unp {is : List Nat} (h : Sem B W ta Ga Ga1 .s fa) (hi : is.all (fun i => decide (i < Ga1.length)) = true) (hp : is.all (fun i => !C.P.contains i) = true) : SemS B W C (tAsg ta (gTup B.K is.length (gNames is))) Ga (shAll Ga1 is) (sUnp is fa) := fun G H fps sg rho E a p => by
  refine h G H fps sg rho _ a ?_
  unfold sUnp at p
  cases e : fa rho with
  | ok z =>
    obtain ⟨d, rho1⟩ := z
    rw [e] at p
    intro G1 H1 fps1 fp v r
    obtain ⟨rfl, rv⟩ := r.vl.of_s
    simp only at p
    split at p
    · rename_i ds
      split at p
      · rename_i hl
        cases rv with
        | tup hq rs =>
          refine ⟨_, _, rfl, r.av.ex.sqt hq.sqt, by rw [rs.length, hl], ?_⟩
          have st := r.st
          rw [List.append_nil] at st
          refine r.av.names rs hl hi fun f2 sg2 sub a2 kk => p G1 H1 f2 sg2 (st.sub sub) a2 fun j hj => kk j fun z => ?_
          have := List.all_eq_true.mp hp j z
          rw [List.contains_iff_mem.mpr hj] at this
          cases this
      · exact p.elim
    · exact p.elim
  | error x =>
    rw [e] at p
    exact p.errE
def sPar (i j : Nat) (fs : Fs) : Fst := fun rho => match fs rho with
  | .ok (ds, rho1) => match ds with
    | [d, e] => .ok (.nx ((rho1.set i d).set j e))
    | _ => stuck
  | .error e => .error e
theorem SemS.par {tr : TA} {fs : Fs} {i j : Nat} (h : SemA B W tr Ga Ga1 [.s, .s] fs) (hi : i < Ga1.length) (hj : j < Ga1.length) (hp : C.P.contains i = false) (hp2 : C.P.contains j = false) : SemS B W C (tPar i j tr) Ga ((Ga1.set i .s).set j .s) (sPar i j fs) := fun G H fps sg rho E a p => by
  refine h G H fps sg rho _ a ?_
  unfold sPar at p
  cases e : fs rho with
  | ok z =>
    obtain ⟨ds, rho1⟩ := z
    rw [e] at p
    intro G1 H1 fps1 vs st av vl
    cases vl with
    | cons v1 vl =>
      cases vl with
      | cons v2 vl =>
        cases vl
        obtain ⟨f2, s2, a2⟩ := (Res.pure av v1.of_s.2).into rfl hi
        obtain ⟨f3, s3, a3⟩ := (Res.pure a2 v2.of_s.2).into (i := j) rfl (by simpa using hj)
        exact ⟨_, _, rfl, p G1 H1 f3 _ ((st.trans s2).trans s3) a3 ((kp_set hp).trans (kp_set hp2))⟩
  | error x =>
    rw [e] at p
    cases x with
    | exc c => exact fun Cl G1 H1 A1 m st ex => p Cl G1 H1 A1 sg m st ex
    | stuck => exact p
    | fuel => exact p
end
end EB
namespace EB
open PySem L2
variable {B : Bd} {G G' G1 G2 G3 H H' H1 H2 H3 : Hp} {A A1 A2 A3 F : List Addr}

/-! ### an owned list is changed -/
theorem Owns.reps_s : ∀ {fs : List (List Addr)} {vs : List V} {ds : List D}, Owns (Own B G H .s) fs vs ds → fs.flatten = [] ∧ Reps B G vs ds
  | _, _, _, .nil => ⟨rfl, .nil⟩
  | _, _, _, .cons h r => by
    simp only [Own] at h
    obtain ⟨rfl, w, e, q⟩ := h
    cases e
    obtain ⟨h1, h2⟩ := Owns.reps_s r
    exact ⟨by rw [List.flatten_cons, h1]; rfl, .cons q h2⟩
theorem own_l {fp : List Addr} {v : Option V} {d : D} (h : Own B G H (.l .s) fp v d) : ∃ p vs ds, v = some (.ref p) ∧ d = .lst ds ∧ H p = some (.lst vs) ∧ fp = [p] ∧ Reps B G vs ds := by
  unfold Own at h
  obtain ⟨p, vs, ds, fps, hv, hd, hp, hf, ho⟩ := h
  have ho : Owns (Own B G H .s) fps vs ds := ho
  obtain ⟨e, r⟩ := ho.reps_s
  rw [e] at hf
  exact ⟨p, vs, ds, hv, hd, hp, hf, r⟩
theorem Step.write {p : Addr} {o : HO} (hp : p ∈ A) (hd : H p ≠ none) : Step G H A G (upd H p o) A where
  g := Ex.refl G
  gn := fun a h h' => absurd h h'
  keep := fun a ha u e => by
    rw [upd_ne (fun z => ha (by rw [z]; exact hp))]
    exact e
  dom := fun a h => by
    by_cases e : a = p
    · subst e
      rw [upd_same]
      simp
    · rw [upd_ne e]
      exact h
  foot := fun a h => .inl h
section
variable {Ga : List Sh} {fps : List (List Addr)} {sg : St} {rho : List D}
theorem At.mut {k : Nat} (a : At B G H Ga fps sg rho) (hg : Ga[k]? = some (.l .s)) : ∃ p vs ds, sg[k]? = some (some (.ref p)) ∧ rho[k]? = some (.lst ds) ∧ H p = some (.lst vs) ∧ Reps B G vs ds ∧
    ∀ vs' ds', Reps B G vs' ds' → At B G (upd H p (.lst vs')) Ga fps sg (rho.set k (.lst ds')) ∧ Step G H fps.flatten G (upd H p (.lst vs')) fps.flatten := by
  obtain ⟨fp, v, d, e1, e2, e3, o⟩ := a.own.get hg
  obtain ⟨p, vs, ds, rfl, rfl, hp, rfl, r⟩ := own_l o
  have hm : p ∈ fps.flatten := flat_mem e1 List.mem_cons_self
  refine ⟨p, vs, ds, e2, e3, hp, r, fun vs' ds' r' => ⟨?_, Step.write hm (by rw [hp]; simp)⟩⟩
  have o' : Own B G (upd H p (.lst vs')) (.l .s) [p] (some (.ref p)) (.lst ds') := own_list upd_same r'
  have av := a.put (i := k) (G1 := G) (H1 := upd H p (.lst vs')) e1 (Ex.refl G) (fun x _ hn u e => by
    rw [upd_ne (fun z => hn (by rw [z]; exact List.mem_cons_self))]
    exact e) o' (by simp) (fun x hx => .inl hx) (fun x hx => a.gn x (flat_mem e1 hx)) (fun x hx _ => a.gn x hx) (a.ex.upd_r (a.gn p hm))
  rwa [set_same hg, set_same e1, set_same e2] at av
end
section
variable {I : Type} {X : Cf I} {W : WX} {C : Ctl} {Ga Ga1 Ga2 Ga3 : List Sh} {sa sb sc sh : Sh} {fa fb fc : Fx} {a b c e : Expr} {ta tb tc te : TE} {tt : TT} {cf : Fb} {pos p p2 p3 : Pos} {ts tu : TS} {f g : Fst} {st : Stmt} {rest sts sts2 : List Stmt}

/-! #### name[i] = value -/
def sSetI (k : Nat) (fa fb : Fx) : Fst := fun rho => match fa rho with
  | .ok (d, rho1) => match fb rho1 with
    | .ok (i, rho2) => match i, rho2.getD k .non with
      | .int i, .lst ds => match ixN ds.length i with
        | some j => .ok (.nx (rho2.set k (.lst (ds.set j d))))
        | none => stuck
      | _, _ => stuck
    | .error e => .error e
  | .error e => .error e
theorem SemS.setI {k : Nat} (h : Sem B W ta Ga Ga1 .s fa) (h2 : Sem B W tb Ga1 Ga2 .s fb) (hg1 : Ga1[k]? = some (.l .s)) (hg : Ga2[k]? = some (.l .s)) : SemS B W C (tAsg ta (gSub (tVar k) tb rSetL)) Ga Ga2 (sSetI k fa fb) := fun G H fps sg rho E av p => by
  refine h G H fps sg rho _ av ?_
  unfold sSetI at p
  cases e : fa rho with
  | error x =>
    rw [e] at p
    exact p.errE
  | ok z =>
    obtain ⟨d, rho1⟩ := z
    rw [e] at p
    intro G1 H1 fps1 fp v r
    obtain ⟨rfl, rv⟩ := r.vl.of_s
    have st := r.st
    rw [List.append_nil] at st
    obtain ⟨q, _, _, hq, _⟩ := r.av.mut hg1
    refine ⟨.ref q, hq, h2 G1 H1 fps1 sg rho1 _ r.av ?_⟩
    have p1 := p.later st (Kp.refl _ _)
    simp only at p1
    cases e2 : fb rho1 with
    | error x =>
      rw [e2] at p1
      exact p1.errE
    | ok z =>
      obtain ⟨i, rho2⟩ := z
      rw [e2] at p1
      intro G2 H2 fps2 fp2 w r2
      obtain ⟨rfl, rw2⟩ := r2.vl.of_s
      have st2 := r2.st
      rw [List.append_nil] at st2
      obtain ⟨q', vs, ds, hq', hd, hl, rs, up⟩ := r2.av.mut hg
      rw [hq] at hq'
      cases hq'
      have p2 := p1.later st2 (Kp.refl _ _)
      simp only [getD_of hd] at p2
      cases i with
      | int i =>
        simp only at p2
        split at p2
        · rename_i j ej
          cases rw2
          refine ⟨q, vs, i, j, rfl, rfl, hl, by rw [rs.length]; exact ej, ?_⟩
          obtain ⟨a3, s3⟩ := up _ _ (rs.set j (rv.mono st2.g))
          exact p2 _ _ _ _ s3 a3 (Kp.refl _ _)
        · exact p2.elim
      | _ => exact p2.elim
theorem DS.setI (k : Nat) {tg : Expr} (hG : ∀ ii, PE (X.at ii) b tb → PG (X.at ii) tg (gSub (tVar k) tb rSetL)) (h : DE X W ta Ga e Ga1 .s fa) (h2 : DE X W tb Ga1 b Ga2 .s fb) (hg1 : Ga1[k]? = some (.l .s) := by rfl) (hg : Ga2[k]? = some (.l .s) := by rfl)
    (hs : ∀ ii, swapsWithSole [tg] e pos.line (X.env ii) = pure false := by intro _; rfl) (hw : ∀ ii, swappedStores [tg] e (X.env ii) = pure none := by intro _; rfl) (ht : ∀ ii, (assignEach [tg] (X.env ii)).map (·.2) = [assign tg (X.env ii)] := by intro _; rfl) :
    DS X W C (tAsg ta (gSub (tVar k) tb rSetL)) Ga (.Assign [tg] e pos) Ga2 (sSetI k fa fb) := ⟨fun ii => ps_asg (h.pe ii) ((hG ii) (h2.pe ii)) (hs ii) (hw ii) (ht ii), SemS.setI h.sm h2.sm hg1 hg⟩

/-! #### name.append(value), name.extend(list) -/
def sApp (k : Nat) (fa : Fx) : Fst := fun rho => match fa rho with
  | .ok (d, rho1) => match rho1.getD k .non with
    | .lst ds => if ds.length < 16777216 then .ok (.nx (rho1.set k (.lst (ds ++ [d])))) else stuck
    | _ => stuck
  | .error e => .error e
theorem SemS.app {k : Nat} (h : Sem B W ta Ga Ga1 .s fa) (hg0 : Ga[k]? = some (.l .s)) (hg : Ga1[k]? = some (.l .s)) : SemS B W C (tDrop (tBM B.K "list" rAppend (tVar k) (tCons ta tNil))) Ga Ga1 (sApp k fa) := fun G H fps sg rho E av p => by
  obtain ⟨q, vs0, ds0, hq, _, hl0, _, _⟩ := av.mut hg0
  refine ⟨.ref q, hq, .inl ⟨rfl, vs0, SqL.of hl0⟩, h G H fps sg rho _ av ?_⟩
  unfold sApp at p
  cases e : fa rho with
  | error x =>
    rw [e] at p
    exact p.errE
  | ok z =>
    obtain ⟨d, rho1⟩ := z
    rw [e] at p
    intro G1 H1 fps1 fp v r
    obtain ⟨rfl, rv⟩ := r.vl.of_s
    have st := r.st
    rw [List.append_nil] at st
    obtain ⟨q', vs, ds, hq', hd, hl, rs, up⟩ := r.av.mut hg
    rw [hq] at hq'
    cases hq'
    have p1 := p.later st (Kp.refl _ _)
    simp only [getD_of hd] at p1
    split at p1
    · rename_i hz
      refine ⟨q, vs, v, rfl, rfl, hl, by rw [rs.length, sizeLine_eq]; exact hz, ?_⟩
      obtain ⟨a3, s3⟩ := up _ _ (rs.append (.cons rv .nil))
      exact p1 _ _ _ _ s3 a3 (Kp.refl _ _)
    · exact p1.elim
theorem DS.app (k : Nat) {x : Str} (h : DE X W ta Ga e Ga1 .s fa) (hg0 : Ga[k]? = some (.l .s) := by rfl) (hg : Ga1[k]? = some (.l .s) := by rfl) (hN : X.N[k]? = some x := by rfl)
    (hv : ∀ ii, Vis (X.env ii).scope x := by intro _; first | exact Or.inl rfl | exact Or.inr (Or.inl rfl) | exact Or.inr (Or.inr rfl)) (hd : (x == ("__debug__" : Str)) = false := by decide) (hc : (x == ("__classdict__" : Str)) = false := by decide)
    (hbase : ∀ ii, attributeBase (.Name x p) "append" (X.env ii) (eval (.Name x p) (X.env ii)) = eval (.Name x p) (X.env ii) := by intro _; rfl)
    (hfew : ∀ ii, ((backTo p2 (starEach (e :: []) (X.env ii))).all (fun x => !x.1) && (backToKw p2 (keywordEach [] (X.env ii))).all (fun x => x.1.isSome)
      && decide ((e :: []).length + ([] : List Keyword).length + (if ([] : List Keyword).isEmpty then 0 else 1) < 30)) = true := by intro _; rfl)
    (hline : (p3.endLine == p2.line) = true := by rfl) (hs : ∀ ii, starEach (e :: []) (X.env ii) = (false, eval e (X.env ii)) :: starEach [] (X.env ii) := by intro _; rfl) (hplain : ∀ ii, (backTo p2 (starEach [] (X.env ii))).any (·.1) = false := by intro _; rfl)
    (hsw : ∀ ii, swapsWith (.Call (.Attribute (.Name x p) "append" p3) [e] [] p2) none pos.line (X.env ii) = pure false := by intro _; rfl) :
    DS X W C (tDrop (tBM X.K "list" rAppend (tVar k) (tCons ta tNil))) Ga (.Expr (.Call (.Attribute (.Name x p) "append" p3) [e] [] p2) pos) Ga1 (sApp k fa) :=
  ⟨fun ii => ps_expr (pe_bm PySem.F.plainAttrs_list PySem.F.slot_list_append PySem.F.type_list_append mt_append (pe_var hN (hv ii) hd hc) (pa_cons (h.pe ii) pa_nil (hs ii)) (hbase ii) (hfew ii) hline (hs ii) (hplain ii)) (hsw ii), SemS.app h.sm hg0 hg⟩

/-! #### name += value -/
def sAugI (i : Nat) (h : Int → Int → Int) (fa : Fx) : Fst := fun rho => match rho.getD i .non with
  | .int x => match fa rho with
    | .ok (d, rho1) => match d with
      | .int y => .ok (.nx (rho1.set i (.int (h x y))))
      | _ => stuck
    | .error e => .error e
  | _ => stuck
theorem SemS.aug {i : Nat} {hf : Int → Int → Int} (h : Sem B W ta Ga Ga1 .s fa) (hg : Ga[i]? = some .s) (hi : i < Ga1.length) (hp : C.P.contains i = false) : SemS B W C (tAug i ta (ipI hf)) Ga (Ga1.set i .s) (sAugI i hf fa) := fun G H fps sg rho E av p => by
  obtain ⟨fp, v, d, e1, e2, e3, o⟩ := av.own.get hg
  simp only [Own] at o
  obtain ⟨_, w, rfl, rw0⟩ := o
  refine ⟨w, e2, h G H fps sg rho _ av ?_⟩
  unfold sAugI at p
  rw [getD_of e3] at p
  cases d with
  | int x =>
    cases rw0
    simp only at p
    cases e : fa rho with
    | error x =>
      rw [e] at p
      exact p.errE
    | ok z =>
      obtain ⟨d, rho1⟩ := z
      rw [e] at p
      intro G1 H1 fps1 fp v r
      obtain ⟨rfl, rv⟩ := r.vl.of_s
      have st := r.st
      rw [List.append_nil] at st
      simp only at p
      cases d with
      | int y =>
        cases rv
        obtain ⟨f2, s2, a2⟩ := (Res.pure r.av (Rep.int (hf x y))).into (i := i) rfl hi
        exact ⟨x, y, rfl, rfl, p _ _ f2 _ (st.trans s2) a2 (kp_set hp)⟩
      | _ => exact p.elim
  | _ => exact p.elim
theorem DS.augA (i : Nat) {x : Str} (hN : X.N.Nodup) (h : DE X W ta Ga e Ga1 .s fa) (hg : Ga[i]? = some .s := by rfl) (hi : decide (i < Ga1.length) = true := by rfl) (hp : C.P.contains i = false := by rfl) (hx : X.N[i]? = some x := by rfl)
    (hl : ∀ ii, Loc (X.env ii).scope x := by intro _; first | exact Or.inl rfl | exact Or.inr rfl) (hf : ∀ ii, X.fn ii x = true ∨ (X.env ii).scope.names.lookup x = some .local := by intro _; first | exact .inl rfl | exact .inr rfl) :
    DS X W C (tAug i ta (ipI fun i j => i + j)) Ga (.AugAssign (.Name x p) .Add e pos) (Ga1.set i .s) (sAugI i (fun i j => i + j) fa) := ⟨fun ii => ps_aug hN hx (hl ii) (h.pe ii) ip_add (hf ii), SemS.aug h.sm hg (of_decide_eq_true hi) hp⟩
theorem DS.augS (i : Nat) {x : Str} (hN : X.N.Nodup) (h : DE X W ta Ga e Ga1 .s fa) (hg : Ga[i]? = some .s := by rfl) (hi : decide (i < Ga1.length) = true := by rfl) (hp : C.P.contains i = false := by rfl) (hx : X.N[i]? = some x := by rfl)
    (hl : ∀ ii, Loc (X.env ii).scope x := by intro _; first | exact Or.inl rfl | exact Or.inr rfl) (hf : ∀ ii, X.fn ii x = true ∨ (X.env ii).scope.names.lookup x = some .local := by intro _; first | exact .inl rfl | exact .inr rfl) :
    DS X W C (tAug i ta (ipI fun i j => i - j)) Ga (.AugAssign (.Name x p) .Sub e pos) (Ga1.set i .s) (sAugI i (fun i j => i - j) fa) := ⟨fun ii => ps_aug hN hx (hl ii) (h.pe ii) ip_sub (hf ii), SemS.aug h.sm hg (of_decide_eq_true hi) hp⟩

/-! ### a, b = value -/
theorem DS.unp (is : List Nat) {tg : Expr} (hg : ∀ ii, PG (X.at ii) tg (gTup X.K is.length (gNames is))) (h : DE X W ta Ga e Ga1 .s fa) (hi : is.all (fun i => decide (i < Ga1.length)) = true := by rfl) (hp : is.all (fun i => !C.P.contains i) = true := by rfl)
    (hs : ∀ ii, swapsWithSole [tg] e pos.line (X.env ii) = pure false := by intro _; rfl) (hw : ∀ ii, swappedStores [tg] e (X.env ii) = pure none := by intro _; rfl) (ht : ∀ ii, (assignEach [tg] (X.env ii)).map (·.2) = [assign tg (X.env ii)] := by intro _; rfl) : DS X W C (tAsg ta (gTup X.K is.length (gNames is))) Ga (.Assign [tg] e pos) (shAll Ga1 is) (sUnp is fa) := ⟨fun ii => ps_asg (h.pe ii) (hg ii) (hs ii) (hw ii) (ht ii), SemS.unp h.sm hi hp⟩
theorem DS.par (i j : Nat) {x y : Str} {tr : TA} {fs : Fs} {kt k2 : _} {pt pt2 px py : Pos} (hc : X.calm = true) (hN : X.N.Nodup) (h : DA X W tr Ga [a, b] Ga1 [.s, .s] fs) (hi : decide (i < Ga1.length) = true := by rfl) (hj : decide (j < Ga1.length) = true := by rfl)
    (hp : C.P.contains i = false := by rfl) (hp2 : C.P.contains j = false := by rfl) (hij : decide (i ≠ j) = true := by rfl) (hx0 : X.N[i]? = some x := by rfl) (hy0 : X.N[j]? = some y := by rfl)
    (hx : ∀ ii, (X.env ii).scope.names.lookup x = some .local := by intro _; rfl) (hy : ∀ ii, (X.env ii).scope.names.lookup y = some .local := by intro _; rfl)
    (hw : ∀ ii, swappedStores [.Tuple [.Name x px, .Name y py] kt pt] (.Tuple [a, b] k2 pt2) (X.env ii) = pure (some [x, y]) := by intro _; rfl)
    (hs : ∀ ii, swapsWithSole [.Tuple [.Name x px, .Name y py] kt pt] (.Tuple [a, b] k2 pt2) pos.line (X.env ii) = pure false := by intro _; rfl) :
    DS X W C (tPar i j tr) Ga (.Assign [.Tuple [.Name x px, .Name y py] kt pt] (.Tuple [a, b] k2 pt2) pos) ((Ga1.set i .s).set j .s) (sPar i j fs) :=
  ⟨fun ii => ps_par hc hN hx0 hy0 (of_decide_eq_true hij) (hx ii) (hy ii) (h.pe ii) (hw ii) (hs ii), SemS.par h.sm (of_decide_eq_true hi) (of_decide_eq_true hj) hp hp2⟩

/-! ### if -/
def sIf (c : Fb) (f g : Fst) : Fst := fun rho => match c rho with
  | .ok (b, rho1) => if b then f rho1 else g rho1
  | .error e => .error e
theorem SemS.ite (h : SemT B W tt Ga Ga1 cf) (h1 : SemS B W C ts Ga1 Ga2 f) (h2 : SemS B W C tu Ga1 Ga2 g) : SemS B W C (tIfS tt ts tu) Ga Ga2 (sIf cf f g) := fun G H fps sg rho E av p =>
  h G H fps sg rho _ av (PostT.to (P := fun G H A r => PostS B W C Ga2 sg E G H A r) (g := fun b r => if b then f r else g r) (fun s h => h.later s (Kp.refl _ _)) (fun h => h.errT) p fun G1 H1 fps1 b rho1 a1 p1 => by
    cases b with
    | true =>
      simp only [if_true] at p1 ⊢
      exact h1 G1 H1 fps1 sg rho1 E a1 p1
    | false =>
      simp only [Bool.false_eq_true, if_false] at p1 ⊢
      exact h2 G1 H1 fps1 sg rho1 E a1 p1)
theorem DS.ite (h : DT X W tt Ga c Ga1 cf) (h1 : DB X W C ts Ga1 sts Ga2 f) (h2 : DB X W C tu Ga1 sts2 Ga2 g) : DS X W C (tIfS tt ts tu) Ga (.If c sts sts2 pos) Ga2 (sIf cf f g) := ⟨fun ii => ps_if (h.pe ii) (h1.pe ii) (h2.pe ii), SemS.ite h.sm h1.sm h2.sm⟩
/-- one way ends the block: return, break, continue -/
def sEnds (f : Fst) : Prop := ∀ rho rho', f rho ≠ .ok (.nx rho')
theorem ends_ret {fa : Fx} : sEnds (sRet fa) := fun rho rho' h => by
  unfold sRet at h
  split at h <;> cases h
theorem ends_bk : sEnds sBk := fun rho rho' h => by cases h
theorem ends_ct : sEnds sCt := fun rho rho' h => by cases h
theorem ends_seq (h : sEnds g) : sEnds (sSeq f g) := fun rho rho' e => by
  unfold sSeq at e
  split at e
  · exact h _ _ e
  · rename_i z
    exact z _ e
theorem ends_seq1 (h : sEnds f) : sEnds (sSeq f g) := fun rho rho' e => by
  unfold sSeq at e
  split at e
  · rename_i z
    exact h _ _ z
  · rename_i z
    exact z _ e
theorem ends_if (h : sEnds f) (h2 : sEnds g) : sEnds (sIf cf f g) := fun rho rho' e => by
  unfold sIf at e
  split at e
  · split at e
    · exact h _ _ e
    · exact h2 _ _ e
  · cases e
theorem DB.ends (h : DB X W C ts Ga sts Ga1 f) (k : sEnds f) : DB X W C ts Ga sts Ga2 f := ⟨fun ii => (h.pe ii), fun G H fps sg rho E a p => by
  refine h.sm G H fps sg rho E a ?_
  cases e : f rho with
  | ok z =>
    rw [e] at p
    cases z with
    | nx r => exact absurd e (k rho r)
    | _ => exact p
  | error x =>
    rw [e] at p
    exact p.err⟩

/-! ### while -/
def wloop (c : Fb) (f : Fst) : Nat → List D → R Fl
  | 0, _ => .error .fuel
  | n + 1, rho => match c rho with
    | .ok (b, rho1) => if b then (match f rho1 with
      | .ok (.nx r) => wloop c f n r
      | .ok (.ct r) => wloop c f n r
      | .ok (.bk r) => .ok (.nx r)
      | .ok (.rt d r) => .ok (.rt d r)
      | .error e => .error e) else .ok (.nx rho1)
    | .error e => .error e
def wfuel : Nat := 1000000000
def sWhile (c : Fb) (f : Fst) : Fst := fun rho => wloop c f wfuel rho
theorem SemS.while (h : SemT B W tt Ga Ga cf) (h1 : SemS B W { C with bk := Ga, ct := Ga } ts Ga Ga f) : SemS B W C (tWhile tt ts) Ga Ga (sWhile cf f) := fun G H fps sg rho E av p => by
  refine ⟨fun m sg1 H1 => ∃ G1 fps1 rho1, At B G1 H1 Ga fps1 sg1 rho1 ∧ PostS B W C Ga sg1 E G1 H1 fps1.flatten (wloop cf f m rho1), ⟨wfuel, G, fps, rho, av, p⟩, ?_⟩
  rintro m sg1 H1 ⟨G1, fps1, rho1, a1, p1⟩
  cases m with
  | zero => exact p1.elim
  | succ m =>
    unfold wloop at p1
    refine h G1 H1 fps1 sg1 rho1 _ a1 ?_
    cases e : cf rho1 with
    | error x =>
      rw [e] at p1
      exact p1.errT
    | ok z =>
      obtain ⟨b, rho2⟩ := z
      rw [e] at p1
      intro G2 H2 fps2 s2 a2
      have p2 := p1.later s2 (Kp.refl _ _)
      simp only at p2
      cases b with
      | false =>
        rw [if_neg Bool.false_ne_true] at p2 ⊢
        exact p2 G2 H2 fps2 sg1 (Step.refl _ _ _) a2 (Kp.refl _ _)
      | true =>
        rw [if_pos rfl] at p2 ⊢
        refine ⟨fun sg3 H3 => ∃ G3 fps3 rho3, At B G3 H3 Ga fps3 sg3 rho3 ∧ PostS B W C Ga sg3 E G3 H3 fps3.flatten (wloop cf f m rho3), fun sg3 H3 w => ⟨m, Nat.lt_succ_self m, w⟩, ?_⟩
        refine h1 G2 H2 fps2 sg1 rho2 _ a2 ?_
        cases e3 : f rho2 with
        | error x =>
          rw [e3] at p2
          exact p2.err
        | ok z =>
          rw [e3] at p2
          cases z with
          | nx r => exact fun G3 H3 fps3 sg3 s3 a3 k3 => ⟨G3, fps3, r, a3, p2.later s3 k3⟩
          | ct r => exact fun G3 H3 fps3 sg3 s3 a3 k3 => ⟨G3, fps3, r, a3, p2.later s3 k3⟩
          | bk r => exact fun G3 H3 fps3 sg3 s3 a3 k3 => p2 G3 H3 fps3 sg3 s3 a3 k3
          | rt d r => exact p2
theorem DS.while (hp : ∀ ii, PassesOwn (model X.prog X.w) X.A (X.env ii) (X.xe ii)) (h : DT X W tt Ga c Ga cf) (h1 : DB X W { C with bk := Ga, ct := Ga } ts Ga sts Ga f) : DS X W C (tWhile tt ts) Ga (.While c sts [] pos) Ga (sWhile cf f) := ⟨fun ii => ps_while (hp ii) (h.pe ii) (h1.pe ii), SemS.while h.sm h1.sm⟩

/-! ### what is walked -/
/-- an item: a value, or (false) a pair just made, to be taken apart at once -/
def RepZ (B : Bd) (G : Hp) : Bool → V → D → Prop
  | true, v, d => Rep B G v d
  | false, v, d => Rep B G v d ∨ ∃ a vs ds, v = .ref a ∧ d = .tup ds ∧ SqT B.K G a vs ∧ Reps B G vs ds
structure Walks (B : Bd) (zz : Bool) (G : Hp) (J : It) (ds : List D) : Prop where
  go : ∀ i H, i < ds.length → Ex G H → J.go i H
  stop : ∀ H, Ex G H → J.stop ds.length H
  yld : ∀ i G2 H x H', J.yld i H x H' → Ex G G2 → Ex G2 H → i < ds.length → ∃ d G3, ds[i]? = some d ∧ (∀ A, Step G2 H A G3 H' A) ∧ Ex G3 H' ∧ RepZ B G3 zz x d
theorem Walks.mono {zz : Bool} {J : It} {ds : List D} (w : Walks B zz G J ds) (e : Ex G G1) : Walks B zz G1 J ds :=
  ⟨fun i H hi x => w.go i H hi (e.trans x), fun H x => w.stop H (e.trans x), fun i G2 H x H' y x1 x2 hi => w.yld i G2 H x H' y (e.trans x1) x2 hi⟩
def PostI (B : Bd) (zz : Bool) (W : WX) (Ga : List Sh) (sg : St) (G H : Hp) (A : List Addr) (Q : It → Hp → Prop) : R (List D × List D) → Prop
  | .ok (ds, rho) => ∀ G1 H1 fps J, Step G H A G1 H1 fps.flatten → At B G1 H1 Ga fps sg rho → Walks B zz G1 J ds → Q J H1
  | .error (.exc c) => ∀ C G1 H1 A1, B.mg c = some (.ref C) → Step G H A G1 H1 A1 → Ex G1 H1 → W (.ref C) none sg H1
  | .error _ => False
def SemI (B : Bd) (zz : Bool) (W : WX) (wi : TI) (Ga Ga' : List Sh) (f : Fs) : Prop :=
  ∀ (G H : Hp) (fps : List (List Addr)) (sg : St) (rho : List D) (Q : It → Hp → Prop), At B G H Ga fps sg rho → PostI B zz W Ga' sg G H fps.flatten Q (f rho) → wi sg H Q
structure DI {I : Type} (X : Cf I) (zz : Bool) (W : WX) (wi : TI) (Ga : List Sh) (tg iter : Expr) (Ga' : List Sh) (f : Fs) : Prop where
  pe : ∀ ii, PI (X.at ii) tg iter wi
  sm : SemI (bd X) zz W wi Ga Ga' f
/-- a list or a tuple -/
def fSeq (fa : Fx) : Fs := fun rho => match fa rho with
  | .ok (d, rho1) => match d.seq with
    | some ds => .ok (ds, rho1)
    | none => stuck
  | .error e => .error e
def fSeqL (fa : Fx) : Fs := fun rho => match fa rho with
  | .ok (d, rho1) => match d with
    | .lst ds => .ok (ds, rho1)
    | _ => stuck
  | .error e => .error e
def fSeqT (fa : Fx) : Fs := fun rho => match fa rho with
  | .ok (d, rho1) => match d with
    | .tup ds => .ok (ds, rho1)
    | _ => stuck
  | .error e => .error e
def fRng1 (fs : Fs) : Fs := fun rho => match fs rho with
  | .ok (ds, rho1) => match ds with
    | [.int j] => if -4611686018427387904 ≤ j ∧ j < 4611686018427387904 then .ok ((List.range j.toNat).map fun (k : Nat) => D.int k, rho1) else stuck
    | _ => stuck
  | .error e => .error e
def fRng2 (fs : Fs) : Fs := fun rho => match fs rho with
  | .ok (ds, rho1) => match ds with
    | [.int i, .int j] => if (-4611686018427387904 ≤ i ∧ i < 4611686018427387904) ∧ -4611686018427387904 ≤ j ∧ j < 4611686018427387904 then .ok ((List.range (j - i).toNat).map fun (k : Nat) => D.int (i + k), rho1) else stuck
    | _ => stuck
  | .error e => .error e
theorem walks_list {l : Addr} {vs : List V} {ds : List D} (h : SL B.K G l vs) (r : Reps B G vs ds) : Walks B true G (Itl B.K l) ds where
  go := fun i H hi x => by
    obtain ⟨v, hv, _⟩ := r.get (List.getElem?_eq_getElem hi)
    exact ⟨vs, v, (x.sl h).sq, hv⟩
  stop := fun H x => ⟨vs, (x.sl h).sq, by rw [r.length]; exact Nat.le_refl _⟩
  yld := fun i G2 H x H' y x1 x2 hi => by
    obtain ⟨rfl, y⟩ := y
    have hx := y vs ((x1.trans x2).sl h).sq
    obtain ⟨d, e, q⟩ := r.get' hx
    exact ⟨d, G2, e, fun A => Step.refl _ _ _, x2, q.mono x1⟩
theorem walks_tup {l : Addr} {vs : List V} {ds : List D} (h : SqT B.K G l vs) (r : Reps B G vs ds) : Walks B true G (Itt B.K l) ds where
  go := fun i H hi x => by
    obtain ⟨v, hv, _⟩ := r.get (List.getElem?_eq_getElem hi)
    exact ⟨vs, v, x.sqt h, hv⟩
  stop := fun H x => ⟨vs, x.sqt h, by rw [r.length]; exact Nat.le_refl _⟩
  yld := fun i G2 H x H' y x1 x2 hi => by
    obtain ⟨rfl, y⟩ := y
    have hx := y vs ((x1.trans x2).sqt h)
    obtain ⟨d, e, q⟩ := r.get' hx
    exact ⟨d, G2, e, fun A => Step.refl _ _ _, x2, q.mono x1⟩
theorem walks_rng {lo : Int} {n : Nat} : Walks B true G (Itr lo n) ((List.range n).map fun (k : Nat) => D.int (lo + k)) where
  go := fun i H hi x => by
    show i < n
    simpa using hi
  stop := fun H x => by
    show n ≤ _
    simp
  yld := fun i G2 H x H' y x1 x2 hi => by
    obtain ⟨rfl, rfl⟩ := y
    refine ⟨.int (lo + i), G2, ?_, fun A => Step.refl _ _ _, x2, .int _⟩
    have hi' : i < n := by simpa using hi
    simp [hi']
theorem SemI.list (h : Sem B W ta Ga Ga1 .s fa) : SemI B true W (iList B.K ta) Ga Ga1 (fSeqL fa) := fun G H fps sg rho Q av p => by
  refine h G H fps sg rho _ av ?_
  unfold fSeqL at p
  cases e : fa rho with
  | error x =>
    rw [e] at p
    cases x with
    | exc c => exact p
    | stuck => exact p
    | fuel => exact p
  | ok z =>
    obtain ⟨d, rho1⟩ := z
    rw [e] at p
    intro G1 H1 fps1 fp v r
    obtain ⟨rfl, rv⟩ := r.vl.of_s
    have st := r.st
    rw [List.append_nil] at st
    simp only at p
    cases d with
    | lst ds =>
      cases rv with
      | lst hl rs => exact ⟨_, rfl, ⟨_, (r.av.ex.sl hl).sq⟩, p G1 H1 fps1 _ st r.av (walks_list hl rs)⟩
    | _ => exact p.elim
theorem SemI.tup (h : Sem B W ta Ga Ga1 .s fa) : SemI B true W (iTup B.K ta) Ga Ga1 (fSeqT fa) := fun G H fps sg rho Q av p => by
  refine h G H fps sg rho _ av ?_
  unfold fSeqT at p
  cases e : fa rho with
  | error x =>
    rw [e] at p
    cases x with
    | exc c => exact p
    | stuck => exact p
    | fuel => exact p
  | ok z =>
    obtain ⟨d, rho1⟩ := z
    rw [e] at p
    intro G1 H1 fps1 fp v r
    obtain ⟨rfl, rv⟩ := r.vl.of_s
    have st := r.st
    rw [List.append_nil] at st
    simp only at p
    cases d with
    | tup ds =>
      cases rv with
      | tup hl rs => exact ⟨_, rfl, ⟨_, r.av.ex.sqt hl.sqt⟩, p G1 H1 fps1 _ st r.av (walks_tup hl.sqt rs)⟩
    | _ => exact p.elim
variable {tr : TA} {fs : Fs} {shs : List Sh} {es : List Expr}
theorem SemI.rng1 (h : SemA B W tr Ga Ga1 [.s] fs) : SemI B true W (iRng1 tr) Ga Ga1 (fRng1 fs) := fun G H fps sg rho Q av p => by
  refine h G H fps sg rho _ av ?_
  unfold fRng1 at p
  cases e : fs rho with
  | error x =>
    rw [e] at p
    cases x with
    | exc c => exact p
    | stuck => exact p
    | fuel => exact p
  | ok z =>
    obtain ⟨ds, rho1⟩ := z
    rw [e] at p
    intro G1 H1 fps1 vs st a1 vl
    simp only at p
    split at p
    · rename_i j
      split at p
      · rename_i hz
        cases vl with
        | cons v1 vl =>
          cases vl
          cases v1.of_s.2
          refine ⟨j, rfl, hz.1, hz.2, p G1 H1 fps1 _ st a1 ?_⟩
          have w := walks_rng (B := B) (G := G1) (lo := 0) (n := j.toNat)
          simpa using w
      · exact p.elim
    · exact p.elim
theorem SemI.rng2 (h : SemA B W tr Ga Ga1 [.s, .s] fs) : SemI B true W (iRng2 tr) Ga Ga1 (fRng2 fs) := fun G H fps sg rho Q av p => by
  refine h G H fps sg rho _ av ?_
  unfold fRng2 at p
  cases e : fs rho with
  | error x =>
    rw [e] at p
    cases x with
    | exc c => exact p
    | stuck => exact p
    | fuel => exact p
  | ok z =>
    obtain ⟨ds, rho1⟩ := z
    rw [e] at p
    intro G1 H1 fps1 vs st a1 vl
    simp only at p
    split at p
    · rename_i i j
      split at p
      · rename_i hz
        cases vl with
        | cons v1 vl =>
          cases vl with
          | cons v2 vl =>
            cases vl
            cases v1.of_s.2
            cases v2.of_s.2
            exact ⟨i, j, rfl, ⟨hz.1.1, hz.1.2, hz.2.1, hz.2.2⟩, p G1 H1 fps1 _ st a1 walks_rng⟩
      · exact p.elim
    · exact p.elim
theorem DI.list {tg : Expr} (h : DE X W ta Ga e Ga1 .s fa) : DI X true W (iList X.K ta) Ga tg e Ga1 (fSeqL fa) := ⟨fun ii => pi_list (h.pe ii), SemI.list h.sm⟩
theorem DI.tup {tg : Expr} (h : DE X W ta Ga e Ga1 .s fa) : DI X true W (iTup X.K ta) Ga tg e Ga1 (fSeqT fa) := ⟨fun ii => pi_tup (h.pe ii), SemI.tup h.sm⟩
theorem DI.rng1 {tg : Expr} (hm : X.mg "range" = none) (h : DA X W tr Ga [a] Ga1 [.s] fs) (hg : ∀ ii, Gl (X.at ii) "range" := by intro _; rfl) (hs : ∀ ii, starEach [a] (X.env ii) = [(false, eval a (X.env ii))] := by intro _; rfl) : DI X true W (iRng1 tr) Ga tg (.Call (.Name "range" p) [a] [] pos) Ga1 (fRng1 fs) := ⟨fun ii => pi_range1 (hg ii) hm (h.pe ii) (hs ii), SemI.rng1 h.sm⟩
theorem DI.rng2 {tg : Expr} (hm : X.mg "range" = none) (h : DA X W tr Ga [a, b] Ga1 [.s, .s] fs) (hg : ∀ ii, Gl (X.at ii) "range" := by intro _; rfl) (hs : ∀ ii, starEach [a, b] (X.env ii) = [(false, eval a (X.env ii)), (false, eval b (X.env ii))] := by intro _; rfl) (hs2 : ∀ ii, starEach [b] (X.env ii) = [(false, eval b (X.env ii))] := by intro _; rfl) :
    DI X true W (iRng2 tr) Ga tg (.Call (.Name "range" p) [a, b] [] pos) Ga1 (fRng2 fs) := ⟨fun ii => pi_range2 (hg ii) hm (h.pe ii) (hs ii) (hs2 ii), SemI.rng2 h.sm⟩

/-! ### targets of a walk -/
/-- what a target does with an item -/
abbrev Ft := D → List D → R (List D)
def PostG (B : Bd) (Ga : List Sh) (is : List Nat) (sg : St) (G H : Hp) (A : List Addr) (Q : St → Hp → Prop) : R (List D) → Prop
  | .ok rho => ∀ fps1 sg1, (∀ x ∈ fps1.flatten, x ∈ A) → At B G H Ga fps1 sg1 rho → (∀ j, j ∉ is → sg1[j]? = sg[j]?) → Q sg1 H
  | .error _ => False
/-- a target stores into the slots is -/
def SemG (B : Bd) (zz : Bool) (g : TG) (Ga Ga' : List Sh) (is : List Nat) (f : Ft) : Prop :=
  ∀ (G H : Hp) (fps : List (List Addr)) (sg : St) (rho : List D) (v : V) (d : D) (Q : St → Hp → Prop), At B G H Ga fps sg rho → RepZ B G zz v d → PostG B Ga' is sg G H fps.flatten Q (f d rho) → g v sg H Q
def tName (i : Nat) : Ft := fun d rho => .ok (rho.set i d)
def tNames (is : List Nat) : Ft := fun d rho => match d with
  | .tup ds => if ds.length = is.length then .ok (setAll rho is ds) else stuck
  | _ => stuck
theorem SemG.name {i : Nat} (hi : i < Ga.length) : SemG B true (gName i) Ga (Ga.set i .s) [i] (tName i) := fun G H fps sg rho v d Q a r p => by
  obtain ⟨f2, s2, a2⟩ := (Res.pure a r).into (i := i) rfl hi
  refine p f2 _ (fun x hx => ?_) a2 fun j hj => ?_
  · rcases s2.foot x hx with z | z
    · exact z
    · exact absurd z (OwnL.dom a2.own x hx)
  · simp only [List.mem_singleton] at hj
    rw [List.getElem?_set_ne (fun e => hj e.symm)]
theorem SemG.names {zz : Bool} {is : List Nat} (hi : is.all (fun i => decide (i < Ga.length)) = true) : SemG B zz (gTup B.K is.length (gNames is)) Ga (shAll Ga is) is (tNames is) := fun G H fps sg rho v d Q a r p => by
  unfold tNames at p
  split at p
  · rename_i ds
    split at p
    · rename_i hl
      have r2 : ∃ b vs, v = .ref b ∧ SqT B.K G b vs ∧ Reps B G vs ds := by
        cases zz with
        | true =>
          have r : Rep B G v (.tup ds) := r
          cases r with
          | tup hq rs => exact ⟨_, _, rfl, hq.sqt, rs⟩
        | false =>
          rcases r with r | ⟨b, vs, ds2, e1, e2, hq, rs⟩
          · cases r with
            | tup hq rs => exact ⟨_, _, rfl, hq.sqt, rs⟩
          · cases e2
            exact ⟨b, vs, e1, hq, rs⟩
      obtain ⟨b, vs, rfl, hq, rs⟩ := r2
      exact ⟨_, _, rfl, a.ex.sqt hq, by rw [rs.length, hl], a.names rs hl hi fun f2 sg2 sub a2 kk => p f2 sg2 sub a2 kk⟩
    · exact p.elim
  · exact p.elim
/-! ### for -/
def floop (t : Ft) (f : Fst) : List D → List D → R Fl
  | [], rho => .ok (.nx rho)
  | d :: ds, rho => match t d rho with
    | .ok rho1 => match f rho1 with
      | .ok (.nx r) => floop t f ds r
      | .ok (.ct r) => floop t f ds r
      | .ok (.bk r) => .ok (.nx r)
      | .ok (.rt d r) => .ok (.rt d r)
      | .error e => .error e
    | .error e => .error .stuck
def sFor (fi : Fs) (t : Ft) (f : Fst) : Fst := fun rho => match fi rho with
  | .ok (ds, rho1) => floop t f ds rho1
  | .error e => .error e
theorem SemS.for {zz : Bool} {wi : TI} {gt : TG} {is : List Nat} {t : Ft} {Gt : List Sh} (h : SemI B zz W wi Ga Ga1 fs) (hg : SemG B zz gt Ga1 Gt is t) (hp : is.all (fun i => !C.P.contains i) = true) (h1 : SemS B W { C with bk := Ga1, ct := Ga1 } ts Gt Ga1 f) :
    SemS B W C (tFor wi gt ts) Ga Ga1 (sFor fs t f) := fun G H fps sg rho E av p => by
  refine h G H fps sg rho _ av ?_
  unfold sFor at p
  cases e : fs rho with
  | error x =>
    rw [e] at p
    cases x with
    | exc c => exact fun Cl G1 H1 A1 m st ex => p Cl G1 H1 A1 sg m st ex
    | stuck => exact p
    | fuel => exact p
  | ok z =>
    obtain ⟨ds, rho1⟩ := z
    rw [e] at p
    intro G1 H1 fps1 J st a1 w
    have p1 := p.later st (Kp.refl _ _)
    simp only at p1
    refine ⟨fun i m sg2 H2 => m = ds.length - i ∧ i ≤ ds.length ∧ ∃ G2 fps2 rho2, At B G2 H2 Ga1 fps2 sg2 rho2 ∧ Ex G1 G2 ∧ PostS B W C Ga1 sg2 E G2 H2 fps2.flatten (floop t f (ds.drop i) rho2),
      ⟨ds.length, by simp, Nat.zero_le _, G1, fps1, rho1, a1, Ex.refl _, by simpa using p1⟩, ?_⟩
    rintro i m sg2 H2 ⟨rfl, hi, G2, fps2, rho2, a2, x2, p2⟩
    by_cases hlt : i < ds.length
    · refine .inr ⟨w.go i H2 hlt (x2.trans a2.ex), fun sg5 H5 => i + 1 ≤ ds.length ∧ ∃ G5 fps5 rho5, At B G5 H5 Ga1 fps5 sg5 rho5 ∧ Ex G1 G5 ∧ PostS B W C Ga1 sg5 E G5 H5 fps5.flatten (floop t f (ds.drop (i + 1)) rho5),
        fun sg5 H5 q => ⟨ds.length - (i + 1), by omega, rfl, q.1, q.2⟩, fun x H' y => ?_⟩
      obtain ⟨d, G3, ed, s3, x3, r3⟩ := w.yld i G2 H2 x H' y x2 a2.ex hlt
      have hdrop : ds.drop i = d :: ds.drop (i + 1) := by
        rw [List.drop_eq_getElem_cons hlt]
        congr 1
        rw [List.getElem?_eq_getElem hlt] at ed
        exact Option.some.inj ed
      have a3 : At B G3 H' Ga1 fps2 sg2 rho2 := a2.same (s3 []) (by simp) x3
      rw [hdrop] at p2
      unfold floop at p2
      refine hg G3 H' fps2 sg2 rho2 x d _ a3 r3 ?_
      have p3 := p2.later (s3 fps2.flatten) (Kp.refl _ _)
      cases e4 : t d rho2 with
      | error z =>
        rw [e4] at p3
        exact p3
      | ok rho4 =>
        rw [e4] at p3
        intro fps4 sg4 sub a4 kk
        have k4 : Kp C.P sg2 sg4 := fun j hj => kk j fun z => by
          have := List.all_eq_true.mp hp j z
          rw [List.contains_iff_mem.mpr hj] at this
          cases this
        have p4 := p3.later ((Step.refl _ _ _).sub sub) k4
        simp only at p4
        refine h1 G3 H' fps4 sg4 rho4 _ a4 ?_
        cases e5 : f rho4 with
        | error z =>
          rw [e5] at p4
          exact p4.err
        | ok z =>
          rw [e5] at p4
          cases z with
          | nx r => exact fun G5 H5 fps5 sg5 s5 a5 k5 => ⟨hlt, G5, fps5, r, a5, (x2.trans (s3 []).g).trans s5.g, p4.later s5 k5⟩
          | ct r => exact fun G5 H5 fps5 sg5 s5 a5 k5 => ⟨hlt, G5, fps5, r, a5, (x2.trans (s3 []).g).trans s5.g, p4.later s5 k5⟩
          | bk r => exact fun G5 H5 fps5 sg5 s5 a5 k5 => p4 G5 H5 fps5 sg5 s5 a5 k5
          | rt d r => exact p4
    · have ei : i = ds.length := by omega
      subst ei
      rw [List.drop_length] at p2
      exact .inl ⟨w.stop H2 (x2.trans a2.ex), p2 G2 H2 fps2 sg2 (Step.refl _ _ _) a2 (Kp.refl _ _)⟩
theorem DS.for1 (i : Nat) {x : Str} {wi : TI} {iter : Expr} (hp : ∀ ii, PassesOwn (model X.prog X.w) X.A (X.env ii) (X.xe ii)) (hc : X.calm = true) (hN : X.N.Nodup) (h : DI X true W wi Ga (.Name x p) iter Ga1 fs)
    (h1 : DB X W { C with bk := Ga1, ct := Ga1 } ts (Ga1.set i .s) sts Ga1 f) (hi : decide (i < Ga1.length) = true := by rfl) (hP : [i].all (fun i => !C.P.contains i) = true := by rfl) (hx : X.N[i]? = some x := by rfl)
    (hl : ∀ ii, Loc (X.env ii).scope x := by intro _; first | exact Or.inl rfl | exact Or.inr rfl) (hf : ∀ ii, X.fn ii x = true ∨ (X.env ii).scope.names.lookup x = some .local := by intro _; first | exact .inl rfl | exact .inr rfl)
    (hs : ∀ ii, ∀ x, foldedSetIterable iter (X.env ii) x = pure x := by intro _; intro _; rfl) : DS X W C (tFor wi (gName i) ts) Ga (.For (.Name x p) iter sts [] pos) Ga1 (sFor fs (tName i) f) :=
  ⟨fun ii => ps_for (hp ii) hc (h.pe ii) (pg_name hN hx (hl ii) (hf ii)) (h1.pe ii) (hs ii), SemS.for h.sm (SemG.name (of_decide_eq_true hi)) hP h1.sm⟩
theorem DS.forN {zz : Bool} (is : List Nat) {tg : Expr} {wi : TI} {iter : Expr} (hp : ∀ ii, PassesOwn (model X.prog X.w) X.A (X.env ii) (X.xe ii)) (hc : X.calm = true) (hgt : ∀ ii, PG (X.at ii) tg (gTup X.K is.length (gNames is))) (h : DI X zz W wi Ga tg iter Ga1 fs)
    (h1 : DB X W { C with bk := Ga1, ct := Ga1 } ts (shAll Ga1 is) sts Ga1 f) (hi : is.all (fun i => decide (i < Ga1.length)) = true := by rfl) (hP : is.all (fun i => !C.P.contains i) = true := by rfl)
    (hs : ∀ ii, ∀ x, foldedSetIterable iter (X.env ii) x = pure x := by intro _; intro _; rfl) : DS X W C (tFor wi (gTup X.K is.length (gNames is)) ts) Ga (.For tg iter sts [] pos) Ga1 (sFor fs (tNames is) f) :=
  ⟨fun ii => ps_for (hp ii) hc (h.pe ii) (hgt ii) (h1.pe ii) (hs ii), SemS.for h.sm (SemG.names hi) hP h1.sm⟩
end
end EB
namespace EB
open PySem L2
variable {B : Bd} {G G' G1 G2 G3 H H' H1 H2 H3 : Hp} {A A1 A2 A3 F : List Addr}

/-! ### what the slots without shape hold does not matter -/
theorem OwnL.slots : ∀ {Ga : List Sh} {fps : List (List Addr)} {sg sg1 : St} {rho rho1 : List D}, OwnL B G H Ga fps sg rho → sg1.length = sg.length → rho1.length = rho.length →
    (∀ i : Nat, Ga[i]? ≠ some Sh.u → sg1[i]? = sg[i]?) → (∀ i : Nat, Ga[i]? ≠ some Sh.u → rho1[i]? = rho[i]?) → OwnL B G H Ga fps sg1 rho1
  | [], _, _, _, _, _, h, l1, l2, _, _ => by
    simp only [OwnL] at h ⊢
    obtain ⟨rfl, rfl, rfl⟩ := h
    exact ⟨rfl, List.length_eq_zero_iff.mp l1, List.length_eq_zero_iff.mp l2⟩
  | e :: es, _, _, sg1, _, rho1, h, l1, l2, k1, k2 => by
    simp only [OwnL] at h ⊢
    obtain ⟨f, fr, v, vr, d, dr, rfl, rfl, rfl, h1, h2⟩ := h
    cases sg1 with
    | nil => simp at l1
    | cons v1 vr1 =>
      cases rho1 with
      | nil => simp at l2
      | cons d1 dr1 =>
        refine ⟨f, fr, v1, vr1, d1, dr1, rfl, rfl, rfl, ?_, OwnL.slots h2 (by simpa using l1) (by simpa using l2) (fun i hi => by simpa using k1 (i + 1) (by simpa using hi)) (fun i hi => by simpa using k2 (i + 1) (by simpa using hi))⟩
        by_cases z : e = .u
        · subst z
          simp only [Own] at h1 ⊢
          exact h1
        · have e1 := k1 0 (by simpa using z)
          have e2 := k2 0 (by simpa using z)
          simp at e1 e2
          rw [e1, e2]
          exact h1
theorem At.slots {Ga : List Sh} {fps : List (List Addr)} {sg sg1 : St} {rho rho1 : List D} (a : At B G H Ga fps sg rho) (l1 : sg1.length = sg.length) (l2 : rho1.length = rho.length) (k1 : ∀ i : Nat, Ga[i]? ≠ some Sh.u → sg1[i]? = sg[i]?) (k2 : ∀ i : Nat, Ga[i]? ≠ some Sh.u → rho1[i]? = rho[i]?) :
    At B G H Ga fps sg1 rho1 := ⟨a.own.slots l1 l2 k1 k2, a.nd, a.gn, a.ex⟩
theorem wipe_at (sg : St) : ∀ (vs : List Nat) (j : Nat), (wipe sg vs)[j]? = if j ∈ vs ∧ j < sg.length then some none else sg[j]?
  | [], j => by simp [wipe]
  | v :: vs, j => by
    unfold wipe
    rw [List.getElem?_set]
    by_cases h : v = j
    · subst h
      rw [if_pos rfl, wipe_length]
      by_cases z : v < sg.length
      · rw [if_pos z, if_pos ⟨List.mem_cons_self, z⟩]
      · rw [if_neg z, if_neg (fun q => z q.2)]
        exact (List.getElem?_eq_none (by omega)).symm
    · rw [if_neg h, wipe_at sg vs j]
      by_cases z : j ∈ vs ∧ j < sg.length
      · rw [if_pos z, if_pos ⟨List.mem_cons_of_mem _ z.1, z.2⟩]
      · rw [if_neg z, if_neg (fun q => z ⟨by
          rcases List.mem_cons.mp q.1 with e | e
          · exact absurd e.symm h
          · exact e, q.2⟩)]
theorem wipe_ext {sg sg1 : St} {vs : List Nat} (l : sg1.length = sg.length) (h : ∀ j, j ∉ vs → sg1[j]? = sg[j]?) : wipe sg1 vs = wipe sg vs := by
  apply List.ext_getElem?
  intro j
  rw [wipe_at, wipe_at, l]
  by_cases z : j ∈ vs ∧ j < sg.length
  · rw [if_pos z, if_pos z]
  · rw [if_neg z, if_neg z]
    by_cases q : j ∈ vs
    · have : ¬ j < sg.length := fun w => z ⟨q, w⟩
      rw [List.getElem?_eq_none (by omega), List.getElem?_eq_none (by omega)]
    · exact h j q
theorem drops_at : ∀ {is : List Nat} {Ga : List Sh} {j : Nat}, j ∈ is → j < Ga.length → (drops Ga is)[j]? = some .u
  | [], _, _, h, _ => by simp at h
  | i :: is, Ga, j, h, hl => by
    unfold drops
    by_cases z : j ∈ is
    · exact drops_at z (by simpa using hl)
    · have e : j = i := by
        rcases List.mem_cons.mp h with e | e
        · exact e
        · exact absurd e z
      subst e
      have stay : ∀ {is : List Nat} {Ga : List Sh}, j ∉ is → (drops Ga is)[j]? = Ga[j]? := by
        intro is
        induction is with
        | nil => intro Ga _; rfl
        | cons i is ih =>
          intro Ga hn
          simp only [List.mem_cons, not_or] at hn
          unfold drops
          rw [ih hn.2, List.getElem?_set_ne (fun e => hn.1 e.symm)]
      rw [stay z, List.getElem?_set_self hl]
theorem drops_len : ∀ (is : List Nat) (Ga : List Sh), (drops Ga is).length = Ga.length
  | [], _ => rfl
  | i :: is, Ga => by
    unfold drops
    rw [drops_len is, List.length_set]

/-! ### comprehensions -/
def cloop (t : Ft) (c : Fb) (fe : Fx) : List D → List D → List D → R (D × List D)
  | [], acc, rho => .ok (.lst acc, rho)
  | d :: ds, acc, rho => match t d rho with
    | .ok rho1 => match c rho1 with
      | .ok (b, rho2) => if b then (match fe rho2 with
        | .ok (y, rho3) => if acc.length < 16777216 then cloop t c fe ds (acc ++ [y]) rho3 else stuck
        | .error _ => stuck) else cloop t c fe ds acc rho2
      | .error _ => stuck
    | .error _ => stuck
def fComp (fi : Fs) (t : Ft) (c : Fb) (fe : Fx) : Fx := fun rho => match fi rho with
  | .ok (ds, rho1) => cloop t c fe ds [] rho1
  | .error e => .error e
def fYes : Fb := fun rho => .ok (true, rho)
theorem SemT.yes {W : WX} {Ga : List Sh} : SemT B W tYes Ga Ga fYes := fun G H fps sg rho Q a p => p G H fps (Step.refl _ _ _) a
abbrev W0 : WX := fun _ _ _ _ => False
/-- a comprehension's blocks -/
abbrev Cf.blk {I : Type} (X : Cf I) (scope : Scope) : Cf (I × Shared × Hp × Addr × List (Str × Addr) × List Addr) where
  prog := X.prog
  w := X.w
  K := X.K
  mg := X.mg
  base := X.base
  A := X.A
  N := X.N
  calm := X.calm
  s_0 := fun j => j.2.1
  H_0 := fun j => j.2.2.1
  env := fun j => compEnvC scope j.2.2.2.2.1 j.2.2.2.1 (X.env j.1)
  outer := fun j => X.stack j.1
  stack := fun j => X.stack j.1
  ex := fun j => j.2.2.2.2.2
  fn := fun _ x => scope.names.lookup x == some .cell
  pn := fun _ => []
  xe := fun _ _ _ => False
section
variable {I : Type} {X : Cf I} {W : WX} {C : Ctl} {Ga Ga1 Ga2 Ga3 Gt Ge : List Sh} {sa sb sc sh : Sh} {fa fb fc : Fx} {a b c e : Expr} {ta tb tc te : TE} {tt : TT} {cf : Fb} {pos p p2 p3 : Pos} {ts tu : TS} {f g : Fst} {st : Stmt} {rest sts sts2 : List Stmt} {fs : Fs}
theorem Sem.comp {zz : Bool} {wi : TI} {gt : TG} {is vs : List Nat} {t : Ft} (hi : SemI B zz W wi Ga Ga1 fs) (hg : SemG B zz gt (drops Ga1 vs) Gt is t) (hc : SemT B W0 tt Gt Gt cf) (he : Sem B W0 te Gt Ge .s fa)
    (hv : is.all (fun i => vs.contains i) = true) (hb : drops Ge vs = drops Ga1 vs) (hb2 : drops Gt vs = drops Ga1 vs) (hl : vs.all (fun i => decide (i < Ga1.length)) = true) : Sem B W (tLc wi gt tt te vs) Ga (drops Ga1 vs) (.l .s) (fComp fs t cf fa) := fun G H fps sg rho Q av p => by
  refine hi G H fps sg rho _ av ?_
  unfold fComp at p
  cases e : fs rho with
  | error x =>
    rw [e] at p
    cases x with
    | exc c => exact p
    | stuck => exact p
    | fuel => exact p
  | ok z =>
    obtain ⟨ds, rho1⟩ := z
    rw [e] at p
    intro G1 H1 fps1 J st a1 w Dz hD
    have p1 := p.later st
    simp only at p1
    obtain ⟨fps0, s0, a0⟩ := a1.mdrop vs
    have p0 := p1.later s0
    -- the shapes of the block's own slots are not known
    have hu : ∀ {j : Nat}, (drops Ga1 vs)[j]? ≠ some .u → j ∉ vs := fun {j} h hj => h (by
      have := List.all_eq_true.mp hl j hj
      exact drops_at hj (of_decide_eq_true this))
    have lsg : sg.length = Ga1.length := (OwnL.lens a1.own).2.1
    have back : ∀ {G H : Hp} {fps : List (List Addr)} {sg2 : St} {rho2 : List D}, At B G H (drops Ga1 vs) fps sg2 rho2 → (∀ j, j ∉ vs → sg2[j]? = sg[j]?) → ∀ sg3 : St, sg3.length = sg.length → (∀ j, j ∉ vs → sg3[j]? = sg[j]?) → At B G H (drops Ga1 vs) fps sg3 rho2 :=
      fun {G H fps sg2 rho2} a k sg3 l3 k3 => a.slots (by
        have := (OwnL.lens a.own).2.1
        rw [drops_len] at this
        omega) rfl (fun j hj => (k3 j (hu hj)).trans (k j (hu hj)).symm) (fun _ _ => rfl)
    have wk : ∀ j, j ∉ vs → (wipe sg vs)[j]? = sg[j]? := fun j hj => by
      rw [wipe_at, if_neg (fun q => hj q.1)]
    have gD0 : G1 Dz = none := a0.ex.free hD
    have nD : Dz ∉ fps0.flatten := fun z => absurd hD (OwnL.dom a0.own Dz z)
    have s1 : Step G1 H1 fps0.flatten G1 (upd H1 Dz (.lst [])) (fps0.flatten ++ [Dz]) := Step.newOwn hD
    have a2 : At B G1 (upd H1 Dz (.lst [])) (drops Ga1 vs) fps0 (wipe sg vs) rho1 :=
      back (a0.same (Step.newOwn (A := []) hD) (by simp) (a0.ex.upd_r gD0)) (fun _ _ => rfl) _ (wipe_length _ _) wk
    refine ⟨fun i m H2 => m = ds.length - i ∧ i ≤ ds.length ∧ ∃ G2 fps2 rho2 acc ws, At B G2 H2 (drops Ga1 vs) fps2 (wipe sg vs) rho2 ∧ Step G1 H1 fps0.flatten G2 H2 (fps2.flatten ++ [Dz]) ∧ H2 Dz = some (.lst ws) ∧ Reps B G2 ws acc ∧ G2 Dz = none ∧ Dz ∉ fps2.flatten ∧
        cloop t cf fa ds [] rho1 = cloop t cf fa (ds.drop i) acc rho2, ⟨ds.length, by simp, Nat.zero_le _, G1, fps0, rho1, [], [], a2, s1, upd_same, .nil, gD0, nD, by simp⟩, ?_⟩
    rintro i m H2 ⟨rfl, hle, G2, fps2, rho2, acc, ws, b2, s2, eD, rs, gD, mD, ec⟩
    by_cases hlt : i < ds.length
    · refine .inr ⟨w.go i H2 hlt (s2.g.trans b2.ex), fun H5 => i + 1 ≤ ds.length ∧ ∃ G2 fps2 rho2 acc ws, At B G2 H5 (drops Ga1 vs) fps2 (wipe sg vs) rho2 ∧ Step G1 H1 fps0.flatten G2 H5 (fps2.flatten ++ [Dz]) ∧ H5 Dz = some (.lst ws) ∧ Reps B G2 ws acc ∧ G2 Dz = none ∧ Dz ∉ fps2.flatten ∧
          cloop t cf fa ds [] rho1 = cloop t cf fa (ds.drop (i + 1)) acc rho2, fun H5 q => ⟨ds.length - (i + 1), by omega, rfl, q.1, q.2⟩, fun x H' y => ?_⟩
      obtain ⟨d, G3, ed, s3, x3, r3⟩ := w.yld i G2 H2 x H' y s2.g b2.ex hlt
      have hdrop : ds.drop i = d :: ds.drop (i + 1) := by
        rw [List.drop_eq_getElem_cons hlt]
        congr 1
        rw [List.getElem?_eq_getElem hlt] at ed
        exact Option.some.inj ed
      have a3 : At B G3 H' (drops Ga1 vs) fps2 (wipe sg vs) rho2 := b2.same (s3 []) (by simp) x3
      have eD3 : H' Dz = some (.lst ws) := (s3 []).keep Dz (by simp) _ eD
      have gD3 : G3 Dz = none := ((s3 []).stays (a := Dz) (by simp) (by rw [eD]; simp) gD).1
      have q0 := p0
      rw [ec, hdrop] at q0
      unfold cloop at q0
      refine hg G3 H' fps2 _ rho2 x d _ a3 r3 ?_
      cases e4 : t d rho2 with
      | error z =>
        rw [e4] at q0
        exact q0.elim
      | ok rho4 =>
        rw [e4] at q0
        intro fps4 sg4 sub a4 kk
        have kv : ∀ j, j ∉ vs → sg4[j]? = sg[j]? := fun j hj => (kk j fun z => hj (by
          have := List.all_eq_true.mp hv j z
          exact List.contains_iff_mem.mp this)).trans (wk j hj)
        have l4 : sg4.length = sg.length := by
          have h1 := (OwnL.lens a4.own).2.1
          have h2 : Gt.length = Ga1.length := by rw [← drops_len vs, hb2, drops_len]
          omega
        refine ⟨wipe_ext l4 kv, ?_⟩
        have m4 : Dz ∉ fps4.flatten := fun z => mD (sub Dz z)
        refine hc G3 H' fps4 sg4 rho4 _ a4 ?_
        simp only at q0
        cases e5 : cf rho4 with
        | error z =>
          rw [e5] at q0
          exact q0.elim
        | ok z =>
          obtain ⟨bb, rho5⟩ := z
          rw [e5] at q0
          intro G5 H5 fps5 s5 a5
          have eD5 : H5 Dz = some (.lst ws) := s5.keep Dz m4 _ eD3
          obtain ⟨gD5, m5⟩ := s5.stays (a := Dz) m4 (by rw [eD3]; simp) gD3
          have st5 : Step G1 H1 fps0.flatten G5 H5 (fps5.flatten ++ [Dz]) := s2.trans (((s3 _).sub fun x hx => by
            rcases List.mem_append.mp hx with z | z
            · exact List.mem_append_left _ (sub x z)
            · exact List.mem_append_right _ z).trans (s5.frame [Dz]))
          simp only at q0
          cases bb with
          | false =>
            rw [if_neg Bool.false_ne_true] at q0 ⊢
            obtain ⟨fps6, s6, a6⟩ := a5.mdrop vs
            rw [hb2] at a6
            refine ⟨hlt, G5, fps6, rho5, acc, ws, back a6 kv _ (wipe_length _ _) wk, st5.trans (s6.frame [Dz]), eD5, rs.mono ((s3 []).g.trans s5.g), gD5, fun z => ?_, ?_⟩
            · rcases s6.foot Dz z with q | q
              · exact m5 q
              · rw [eD5] at q
                cases q
            · rw [ec, hdrop]
              conv => lhs; unfold cloop
              simp only [e4, e5, Bool.false_eq_true, if_false]
          | true =>
            rw [if_pos rfl] at q0 ⊢
            refine he G5 H5 fps5 sg4 rho5 _ a5 ?_
            cases e6 : fa rho5 with
            | error z =>
              rw [e6] at q0
              exact q0.elim
            | ok z =>
              obtain ⟨yd, rho6⟩ := z
              rw [e6] at q0
              intro G6 H6 fps6 fp6 v6 r6
              obtain ⟨rfl, rv⟩ := r6.vl.of_s
              have s6 := r6.st
              rw [List.append_nil] at s6
              simp only at q0
              split at q0
              · rename_i hz
                have eD6 : H6 Dz = some (.lst ws) := s6.keep Dz m5 _ eD5
                obtain ⟨gD6, m6⟩ := s6.stays (a := Dz) m5 (by rw [eD5]; simp) gD5
                obtain ⟨fps7, s7, a7⟩ := r6.av.mdrop vs
                rw [hb] at a7
                have m7 : Dz ∉ fps7.flatten := fun z => by
                  rcases s7.foot Dz z with q | q
                  · exact m6 q
                  · rw [eD6] at q
                    cases q
                have rs6 : Reps B G6 ws acc := rs.mono (((s3 []).g.trans s5.g).trans s6.g)
                refine ⟨ws, eD6, by rw [rs6.length, sizeLine_eq]; exact hz, hlt, G6, fps7, rho6, acc ++ [yd], ws ++ [v6], ?_, ?_, upd_same, rs6.append (.cons rv .nil), gD6, m7, ?_⟩
                · have b7 := back a7 kv _ (wipe_length _ _) wk
                  refine b7.same (F := [Dz]) (F1 := [Dz]) (Step.write List.mem_cons_self (by rw [eD6]; simp)) (fun x hx z => m7 ((List.mem_singleton.mp z) ▸ hx)) (b7.ex.upd_r gD6)
                · exact (st5.trans ((s6.trans s7).frame [Dz])).trans (Step.write (List.mem_append_right _ List.mem_cons_self) (by rw [eD6]; simp))
                · rw [ec, hdrop]
                  conv => lhs; unfold cloop
                  simp only [e4, e5, e6, if_true, if_pos hz]
              · exact q0.elim
    · have ei : i = ds.length := by omega
      subst ei
      refine .inl ⟨w.stop H2 (s2.g.trans b2.ex), ?_⟩
      rw [ec, List.drop_length] at p0
      unfold cloop at p0
      refine p0 G2 H2 fps2 [Dz] (.ref Dz) ⟨s2, back b2 wk _ rfl (fun _ _ => rfl), .own (own_list eD rs), ?_, ?_⟩
      · rw [List.nodup_append]
        refine ⟨b2.nd, by simp, ?_⟩
        intro x hx y hy e
        rw [List.mem_singleton.mp hy] at e
        exact mD (e ▸ hx)
      · intro x hx
        rw [List.mem_singleton.mp hx]
        exact gD

variable {scope : Scope} {own : List (Str × Nat)} {tg iter : Expr} {wi : TI} {gt : TG} {t : Ft} {is : List Nat}
theorem DE.comp {zz : Bool} (hc : X.calm = true) (hN : X.N.Nodup) (hi : DI X zz W wi Ga tg iter Ga1 fs) (ok : ∀ ii, BlkOk X.N (X.env ii).scope scope own)
    (hg : ∀ jj, PG ((X.blk scope).at jj) tg gt) (hgs : SemG (bd X) zz gt (drops Ga1 (own.map (·.2))) Gt is t)
    (he : DE (X.blk scope) W0 te Gt e Ge .s fa)
    (hv : is.all (fun i => (own.map (·.2)).contains i) = true := by rfl) (hb : drops Ge (own.map (·.2)) = drops Ga1 (own.map (·.2)) := by rfl) (hb2 : drops Gt (own.map (·.2)) = drops Ga1 (own.map (·.2)) := by rfl) (hl : (own.map (·.2)).all (fun i => decide (i < Ga1.length)) = true := by rfl)
    (hs : ∀ ii x, foldedSetIterable iter (X.env ii) x = pure x := by intro _ _; rfl) : DE X W (tLc wi gt tYes te (own.map (·.2))) Ga (.ListComp e [⟨tg, iter, [], 0⟩] scope pos) (drops Ga1 (own.map (·.2))) (.l .s) (fComp fs t fYes fa) :=
  ⟨fun ii => pe_lc hc hN (hi.pe ii) (ok ii) (fun s H C cl fp => hg (ii, s, H, C, cl, fp)) (fun _ _ _ _ _ => pts_nil) (fun s H C cl fp => he.pe (ii, s, H, C, cl, fp)) (hs ii), Sem.comp hi.sm hgs SemT.yes he.sm hv hb hb2 hl⟩
theorem DE.compIf {zz : Bool} (hc : X.calm = true) (hN : X.N.Nodup) (hi : DI X zz W wi Ga tg iter Ga1 fs) (ok : ∀ ii, BlkOk X.N (X.env ii).scope scope own)
    (hg : ∀ jj, PG ((X.blk scope).at jj) tg gt) (hgs : SemG (bd X) zz gt (drops Ga1 (own.map (·.2))) Gt is t) (ht : DT (X.blk scope) W0 tt Gt c Gt cf)
    (he : DE (X.blk scope) W0 te Gt e Ge .s fa)
    (hv : is.all (fun i => (own.map (·.2)).contains i) = true := by rfl) (hb : drops Ge (own.map (·.2)) = drops Ga1 (own.map (·.2)) := by rfl) (hb2 : drops Gt (own.map (·.2)) = drops Ga1 (own.map (·.2)) := by rfl) (hl : (own.map (·.2)).all (fun i => decide (i < Ga1.length)) = true := by rfl)
    (hs : ∀ ii x, foldedSetIterable iter (X.env ii) x = pure x := by intro _ _; rfl) : DE X W (tLc wi gt tt te (own.map (·.2))) Ga (.ListComp e [⟨tg, iter, [c], 0⟩] scope pos) (drops Ga1 (own.map (·.2))) (.l .s) (fComp fs t cf fa) :=
  ⟨fun ii => pe_lc hc hN (hi.pe ii) (ok ii) (fun s H C cl fp => hg (ii, s, H, C, cl, fp)) (fun s H C cl fp => pts_one (ht.pe (ii, s, H, C, cl, fp))) (fun s H C cl fp => he.pe (ii, s, H, C, cl, fp)) (hs ii), Sem.comp hi.sm hgs ht.sm he.sm hv hb hb2 hl⟩
theorem DS.setLc {zz : Bool} (i : Nat) {y : Str} (hc : X.calm = true) (hN : X.N.Nodup) (hyl : ∀ ii, (X.env ii).scope.names.lookup y = some .local) (hsw : ∀ ii, swapsWith (.ListComp e [⟨tg, iter, [], 0⟩] scope pos) (some (.Name y p)) p2.line (X.env ii) = pure true) (hi : DI X zz W wi Ga tg iter Ga1 fs) (ok : ∀ ii, BlkOk X.N (X.env ii).scope scope own)
    (hg : ∀ jj, PG ((X.blk scope).at jj) tg gt) (hgs : SemG (bd X) zz gt (drops Ga1 (own.map (·.2))) Gt is t)
    (he : DE (X.blk scope) W0 te Gt e Ge .s fa)
    (hy : X.N[i]? = some y := by rfl) (hp : C.P.contains i = false := by rfl) (hil : decide (i < Ga1.length) = true := by rfl)
    (hv : is.all (fun i => (own.map (·.2)).contains i) = true := by rfl) (hb : drops Ge (own.map (·.2)) = drops Ga1 (own.map (·.2)) := by rfl) (hb2 : drops Gt (own.map (·.2)) = drops Ga1 (own.map (·.2)) := by rfl) (hl : (own.map (·.2)).all (fun i => decide (i < Ga1.length)) = true := by rfl)
    (hs : ∀ ii x, foldedSetIterable iter (X.env ii) x = pure x := by intro _ _; rfl) : DS X W C (tAsg (tLc wi gt tYes te (own.map (·.2))) (gName i)) Ga (.Assign [.Name y p] (.ListComp e [⟨tg, iter, [], 0⟩] scope pos) p2) ((drops Ga1 (own.map (·.2))).set i (.l .s)) (sSet i (fComp fs t fYes fa)) :=
  ⟨fun ii => ps_setLc hc hN hy (hyl ii) (hsw ii) (hi.pe ii) (ok ii) (fun s H C cl fp => hg (ii, s, H, C, cl, fp)) (fun _ _ _ _ _ => pts_nil) (fun s H C cl fp => he.pe (ii, s, H, C, cl, fp)) (hs ii), SemS.set (Sem.comp hi.sm hgs SemT.yes he.sm hv hb hb2 hl) rfl (by rw [drops_len]; exact of_decide_eq_true hil) hp⟩
theorem DS.setLcIf {zz : Bool} (i : Nat) {y : Str} (hc : X.calm = true) (hN : X.N.Nodup) (hyl : ∀ ii, (X.env ii).scope.names.lookup y = some .local) (hsw : ∀ ii, swapsWith (.ListComp e [⟨tg, iter, [c], 0⟩] scope pos) (some (.Name y p)) p2.line (X.env ii) = pure true) (hi : DI X zz W wi Ga tg iter Ga1 fs) (ok : ∀ ii, BlkOk X.N (X.env ii).scope scope own)
    (hg : ∀ jj, PG ((X.blk scope).at jj) tg gt) (hgs : SemG (bd X) zz gt (drops Ga1 (own.map (·.2))) Gt is t) (ht : DT (X.blk scope) W0 tt Gt c Gt cf)
    (he : DE (X.blk scope) W0 te Gt e Ge .s fa)
    (hy : X.N[i]? = some y := by rfl) (hp : C.P.contains i = false := by rfl) (hil : decide (i < Ga1.length) = true := by rfl)
    (hv : is.all (fun i => (own.map (·.2)).contains i) = true := by rfl) (hb : drops Ge (own.map (·.2)) = drops Ga1 (own.map (·.2)) := by rfl) (hb2 : drops Gt (own.map (·.2)) = drops Ga1 (own.map (·.2)) := by rfl) (hl : (own.map (·.2)).all (fun i => decide (i < Ga1.length)) = true := by rfl)
    (hs : ∀ ii x, foldedSetIterable iter (X.env ii) x = pure x := by intro _ _; rfl) : DS X W C (tAsg (tLc wi gt tt te (own.map (·.2))) (gName i)) Ga (.Assign [.Name y p] (.ListComp e [⟨tg, iter, [c], 0⟩] scope pos) p2) ((drops Ga1 (own.map (·.2))).set i (.l .s)) (sSet i (fComp fs t cf fa)) :=
  ⟨fun ii => ps_setLc hc hN hy (hyl ii) (hsw ii) (hi.pe ii) (ok ii) (fun s H C cl fp => hg (ii, s, H, C, cl, fp)) (fun s H C cl fp => pts_one (ht.pe (ii, s, H, C, cl, fp))) (fun s H C cl fp => he.pe (ii, s, H, C, cl, fp)) (hs ii), SemS.set (Sem.comp hi.sm hgs ht.sm he.sm hv hb hb2 hl) rfl (by rw [drops_len]; exact of_decide_eq_true hil) hp⟩
end
end EB
namespace EB
open PySem PySem.Spec PyProof.Rows L2
/-! ### room, and no container being written out (repr) -/
structure RoomG (k : Nat) (A : Around) : Prop where
  r : Room k A
  g : A.guards = some []
theorem RoomG.mono {j k : Nat} {A : Around} (h : RoomG k A) (e : j ≤ k) : RoomG j A := ⟨h.r.mono e, h.g⟩
theorem RoomG.deeper {k : Nat} {A : Around} (h : RoomG (k + 1) A) (env : Env) : RoomG k (A.deeper env) := ⟨h.r.deeper env, h.g⟩
theorem RoomG.in1 {k : Nat} {A : Around} (h : RoomG (k + 1) A) : RoomG k A.in1 := ⟨h.r.in1, h.g⟩
theorem RoomG.units {k : Nat} {A : Around} (h : RoomG k A) : A.units + 64 < cLine := h.r.units
/-- a def's promise, where no container is being written out -/
structure FnG (P : Program) (w : World) (K : PySem.W.Frag) (mg : Str → Option Value) (base : Heap) (CX : CXT) (k : Nat) (f : Addr) (fd : FuncData) (ps : List Str) (sp : Sp) : Prop where
  len : ∀ vs H Q E, sp vs H Q E → vs.length = ps.length
  run : ∀ (A : Around) (outer : List Env) (s : Shared) (H : Hp) (args : Args) (us : List Value) (vs : List V) (Q : VK) (E : XK), RoomG k A → Env0 P w K mg base A outer s H → BindsTo s fd args (ps.zip us) → Vals vs us → sp vs H Q E →
    codeAny (model P w) A (.call (.ref f) args) (CR CX outer P w H s Q E) s
theorem FnG.mono {P : Program} {w : World} {K : PySem.W.Frag} {mg : Str → Option Value} {base : Heap} {CX : CXT} {j k : Nat} {f : Addr} {fd : FuncData} {ps : List Str} {sp : Sp} (F : FnG P w K mg base CX j f fd ps sp) (h : j ≤ k) : FnG P w K mg base CX k f fd ps sp :=
  ⟨F.len, fun A outer s H args us vs Q E g => F.run A outer s H args us vs Q E (g.mono h)⟩
theorem fnG_of {CX : CXT} {P : Program} {w : World} {K : PySem.W.Frag} {mg : Str → Option Value} {base : Heap} {k : Nat} {f : Addr} {name qual : Str} {params : Arguments} {body : List Stmt} {scope : Scope} {dV kV doc pm cdv ct oc : Value} {an od : Option Addr}
    {osl : Array (Option Value)} {N ps : List Str} {sp : Sp} (lk : K.lookup f = some ⟨oc, od, .func (PySem.W.fnOf name qual params body scope dV kV doc pm an cdv ct), osl⟩) (hcd : PySem.W.codeIn K cdv qual = true) (S : FnScope N ps scope)
    (len : ∀ vs H Q E, sp vs H Q E → vs.length = ps.length)
    (hbody : ∀ (A : Around) (outer : List Env) (s : Shared) (H : Hp) (vs : List V) (Q : VK) (E : XK), RoomG k (A.deeper (envOfC qual scope s.heap.objs.size f cdv)) → sp vs H Q E →
      ∃ t, PSs (cxOf CX P w K mg base N qual scope f cdv A outer s H E) body t ∧ t { nx := fun _ H' => Q .non H', rt := Q } (start N vs) H) :
    FnG P w K mg base CX (k + 1) f (PySem.W.fnOf name qual params body scope dV kV doc pm an cdv ct) ps sp := by
  refine ⟨len, fun A outer s H args us vs Q E rg en bi rv promise => ?_⟩
  have lenE := len _ _ _ _ promise
  have inK : K.In s.heap := en.mod.kin.keeps fun b o z => (en.bs b o z).1
  have nolim : s.heap.NoLimit := en.mod.nolimit.keeps fun b o z => (en.bs b o z).1
  have kinds : ∀ y ∈ ps.zip us, scope.names.lookup y.1 = some .local ∨ (scope.names.lookup y.1 = some .cell ∧ ((cellsFrom (s.heap.objs.size + 1) scope.names []).lookup y.1).isSome = true) := fun ⟨n, v⟩ hy =>
    (S.par n (List.of_mem_zip hy).1).imp id fun q => ⟨q, PySem.W.cellsFrom_some _ _ _ (.inl q)⟩
  refine codeAny_call_function rg.r.depth (inK _ _ lk) rfl S.co S.gen rfl (PySem.W.codeRec_of inK hcd) (bi _ _ _ _ (wpAny_newFunctionEnv_cells S.kind kinds fun env eqE s1 x => ?_))
  subst eqE
  refine ⟨nolim.keeps x.toInCall.keep, codeAny_func ?_⟩
  obtain ⟨t, ht, q0⟩ := hbody A outer s H vs Q E (rg.deeper _) promise
  have J0 : Inv (cxOf CX P w K mg base N qual scope f cdv A outer s H E) [] (start N vs) H s1 := inv_start S rg.r.hd en lenE rv x
  have ends : ∀ {sg : L2.St} {H2 : Hp} {v : V} {u : Value} {s2 : Shared}, Inv (cxOf CX P w K mg base N qual scope f cdv A outer s H E) [] sg H2 s2 → RelV v u → Q v H2 → CE outer P w H s Q u s2 :=
    fun {sg H2 v u s2} J r1 q1 => ⟨v, H2, J.os, J.bare, J.base, J.hok, r1, q1⟩
  refine wpAny_mono (ht.run [] s1 (start N vs) H _ J0 q0) (fun fl s2 hs => ?_) fun _ _ z => z
  cases fl with
  | brk =>
    obtain ⟨_, _, _, z⟩ := hs
    exact z.elim
  | cont =>
    obtain ⟨_, _, _, z⟩ := hs
    exact z.elim
  | next =>
    obtain ⟨sg, H2, J, q⟩ := hs
    exact ends (v := V.non) (u := Value.none) J rfl q
  | ret u =>
    obtain ⟨v, sg, H2, J, r1, q⟩ := hs
    exact ends J r1 q
theorem okG {P : Program} {w : World} {K : PySem.W.Frag} {mg : Str → Option Value} {base : Heap} {x qual : Str} {st : Stmt} {f : Addr} {fd : FuncData} {N ps : List Str} {k : Nat} {sp : Sp} (F : Fun K x qual st f fd) (S : FnScope N ps (defScope st)) (len : ∀ vs H Q E, sp vs H Q E → vs.length = ps.length)
    (hbody : ∀ (cdv : Value) (A : Around) (outer : List Env) (s : Shared) (H : Hp) (vs : List V) (Q : VK) (E : XK), RoomG k (A.deeper (envOfC qual (defScope st) s.heap.objs.size f cdv)) → sp vs H Q E →
      ∃ t, PSs (cxOf (L2.CX P w) P w K mg base N qual (defScope st) f cdv A outer s H E) (defBody st) t ∧ t { nx := fun _ H' => Q .non H', rt := Q } (start N vs) H) : FnG P w K mg base (L2.CX P w) (k + 1) f fd ps sp := by
  obtain ⟨oc, od, kV, doc, pm, an, cdv, ct, osl, e, lk, hc⟩ := F.ex
  subst e
  exact fnG_of lk hc S len fun A outer s H vs Q E => hbody cdv A outer s H vs Q E
section
variable {X : Cx} {CX : CXT} {k : Nat} {f C : Addr} {fd : FuncData} {ps : List Str} {sp : Sp} {E : L2.St → XK} {x m : Str} {p pos apos : Pos} {e o : Expr} {es : List Expr} {ta : TE} {t : TA}
theorem run_fnG {pins : List (Addr × Obj)} {sg : L2.St} {H : Hp} {s : Shared} {Q : VK} {us : List Value} {vs : List V} (F : FnG X.prog X.w X.K X.mg X.base CX k f fd ps sp) (hr : RoomG k X.A) (hb : Binds X.K fd ps []) (hx : PassesAt CX X sg (E sg))
    (I : Inv X pins sg H s) (r : Vals vs us) (h : sp vs H Q (E sg)) : wpAny (model X.prog X.w) X.A (call (.ref f) us) (EP X pins sg Q) X.xe s := by
  have b := hb s us I.kIn (by rw [List.append_nil, ← r.length]; exact F.len _ _ _ _ h)
  rw [List.append_nil] at b
  refine wpAny_call (codeAny_mono (F.run X.A X.stack s H ⟨us, []⟩ us vs Q (E sg) hr I.env0 b r h) fun res s2 hq => ?_)
  match res, hq with
  | .error er, hq => exact hx pins H s er s2 I hq
  | .ok (.ret u), hq => exact I.after hq
theorem pe_callG (F : FnG X.prog X.w X.K X.mg X.base CX k f fd ps sp) (hr : RoomG k X.A) (hg : Gl X x) (hm : X.mg x = some (.ref f)) (hk : PySem.W.keepIn X.K (.ref f) = true) (hb : Binds X.K fd ps []) (hx : ∀ sg, PassesAt CX X sg (E sg))
    (ha : PA X (e :: es) t) (hdb : (x == ("__debug__" : Str)) = false) (he : starEach (e :: es) X.env = (false, eval e X.env) :: starEach es X.env) (hpl : (backTo pos (starEach es X.env)).any (·.1) = false) :
    PE X (.Call (.Name x p) (e :: es) [] pos) (tCallS sp E t) :=
  ⟨fun pins s sg H Q I h => wpAny_Call_Name_kw (ld_glob I hg hm (PySem.W.callWith_K (h₀ := X.base) I.ok.mod.kin hk (thn (ha.run pos pins s sg H _ I h) fun us s1 ⟨vs, H1, I1, r, q⟩ => ⟨I1.kIn, run_fnG F hr hb (hx sg) I1 r q⟩) he hpl) hdb)⟩
end
/-- the law's call -/
theorem law_callG {P : Program} {w : World} {K : PySem.W.Frag} {mg mb : Str → Option Value} {CX : CXT} {k : Nat} {fa a : Addr} {fd : FuncData} {x : Str} {sp : Sp} {s1 : Shared} {vs : List Value} {ns : List Int}
    (KX : K.In s1.heap) (hns : s1.heap.Ns mainGlobals mg) (hb : s1.heap.Ns builtinsNs mb) (hbb : ∀ x : Str, x ≠ "__name__" → mb x = bootBuiltins x) (hlim : s1.heap.NoLimit) (hg : s1.gens = #[])
    (ha : s1.heap.get? a = some { cls := .type "list", data := .seq vs.toArray }) (hi : IntsAre vs ns) (hl : ns.length ≤ sizeLine) (hr : Room k callerA)
    (F : ∀ base : Heap, K.In base → base.Ns mainGlobals mg → FnG P w K mg base CX k fa fd [x] sp) (hbind : ∀ (s : Shared) (u : Value), BindsTo s fd ⟨[u], []⟩ [(x, u)])
    (hsp : ∀ H : Hp, SqL K H a (ns.map V.int) → sp [.ref a] H (fun v _ => v = .bl true) fun _ _ _ => False)
    (hCX : ∀ H e s', CX [] H s1 (fun _ _ _ => False) e s' → False) :
    codeAny (model P w) callerA (.call (.ref fa) ⟨[.ref a], []⟩) (fun r s' => r = .ok (.ret (.bool true)) ∧ OldK s1.heap s'.heap ∧ s'.os = s1.os ∧ AllBare s'.gens) s1 := by
  have rv := vals_ints hi
  have go : ∀ H : Hp, (∀ b, H b = none ∨ (b = a ∧ K.lookup a = none ∧ ∃ o xs, H b = some (.frz o (.lst xs)))) → SqL K H a (ns.map V.int) → HOk P w H s1.heap →
      codeAny (model P w) callerA (.call (.ref fa) ⟨[.ref a], []⟩) (fun r s' => r = .ok (.ret (.bool true)) ∧ OldK s1.heap s'.heap ∧ s'.os = s1.os ∧ AllBare s'.gens) s1 := by
    intro H hO hS hok
    have stays : ∀ {b : Addr} {o : Obj}, s1.heap.get? b = some o → H b = none → (hidT s1.heap H).get? b = some o := fun e z => hidT_get e z
    have free : ∀ {b : Addr} {o : Obj} {es : Array DictEntry} {ep : Nat}, s1.heap.get? b = some o → o.data = .dict es ep → H b = none := fun {b o es ep} e d => by
      rcases hO b with z | ⟨rfl, _⟩
      · exact z
      · rw [ha] at e
        cases e
        cases (show Data.seq vs.toArray _ = Data.dict es ep from d)
    have ns2 : ∀ {b : Addr} {m : Str → Option Value}, s1.heap.Ns b m → (hidT s1.heap H).Ns b m := fun {b m} ⟨o, es, ep, e, d, z⟩ => ⟨o, es, ep, stays e (free e d), d, z⟩
    have inK : K.In (hidT s1.heap H) := fun b o e => stays (KX b o e) (by
      rcases hO b with z | ⟨rfl, z, _⟩
      · exact z
      · rw [z] at e
        cases e)
    have md : Mod K mg (hidT s1.heap H) := ⟨inK, ns2 hns, ⟨mb, ns2 hb, hbb⟩, let ⟨mc, h1, h2⟩ := hlim; ⟨mc, ns2 h1, h2⟩⟩
    have en : Env0 P w K mg (hidT s1.heap H) callerA [] s1 H := ⟨rfl, md, fun b o e => of_hidT e, Nat.le_of_eq (hidT_size _ _), trivial, fun b z => absurd (show b ∈ ([] : List Addr) from z) (by simp), hok, .of_eq hg⟩
    refine codeAny_mono ((F _ inK (ns2 hns)).run callerA [] s1 H ⟨[.ref a], []⟩ [.ref a] [.ref a] _ _ ⟨hr, rfl⟩ en (hbind s1 (.ref a)) (.cons rfl .nil) (hsp H hS)) fun res s2 h => ?_
    match res, h with
    | .error er, h => exact (hCX H er s2 h).elim
    | .ok (.ret u), h =>
      obtain ⟨v, H2, os, bare, un, hok2, r2, q⟩ := h
      cases (show v = .bl true from q)
      obtain rfl : u = Value.bool true := r2
      refine ⟨rfl, OldK.of_keep fun b o e => ?_, os, bare⟩
      rcases hO b with z | ⟨_, _, ob, xs, z⟩
      · exact un.keep b o e z (fun y => absurd (show b ∈ ([] : List Addr) from y) (by simp)) (by simp)
      · obtain ⟨e1, _⟩ := hok b _ z
        obtain ⟨e2, _⟩ := hok2 b _ (un.frzs b ob _ z)
        rw [e] at e1
        cases e1
        exact e2
  cases hk : K.lookup a with
  | some o =>
    have e := KX a o hk
    rw [ha] at e
    cases e
    exact go (fun _ => none) (fun _ => .inl rfl) (.inr ⟨_, vs.toArray, _, hk, rfl, rfl, rfl, by rw [List.size_toArray, hi.length]; exact hl, by simpa using rv⟩) (fun b u z => nomatch (show (none : Option HO) = some u from z))
  | none =>
    refine go (fun b => if b = a then some (.frz { cls := .type "list", data := .seq vs.toArray } (.lst (ns.map V.int))) else none) (fun b => ?_) (.inl (.inr ⟨{ cls := .type "list", data := .seq vs.toArray }, if_pos rfl⟩)) (fun b u z => ?_)
    · by_cases e : b = a
      · exact .inr ⟨e, hk, _, _, if_pos e⟩
      · exact .inl (if_neg e)
    · by_cases e : b = a
      · cases (if_pos e).symm.trans z
        subst e
        exact ⟨ha, by rw [List.length_map]; exact hl, vs, _, rv, ha⟩
      · cases (if_neg e).symm.trans z
end EB
namespace EB
open PySem L2
variable {B : Bd} {G G' G1 G2 G3 H H' H1 H2 H3 : Hp} {A A1 A2 A3 F : List Addr}

/-! ### a def's promise -/
abbrev Fn := List D → R (D × List D)
/-- how a run of a def's mirror must end -/
def PostF (B : Bd) (Mp : List Sh) (rs : Sh) (n : Nat) (vs : List V) (G H : Hp) (A : List Addr) (Q : VK) (E : XK) : R (D × List D) → Prop
  | .ok (d, rho) => ∀ G1 H1 fps fp v, Step G H A G1 H1 (fps.flatten ++ fp) → At B G1 H1 Mp fps (vs.map some) (rho.take n) → Own B G1 H1 rs fp (some v) d → (fps.flatten ++ fp).Nodup → (∀ a ∈ fp, G1 a = none) → Q v H1
  | .error (.exc c) => ∀ Cl G1 H1 A1, B.mg c = some (.ref Cl) → Step G H A G1 H1 A1 → Ex G1 H1 → E (.ref Cl) none H1
  | .error _ => False
def spOf (B : Bd) (Gp Mp : List Sh) (rs : Sh) (m : Fn) : Sp := fun vs H Q E => vs.length = Gp.length ∧ ∃ G fps ds, At B G H Gp fps (vs.map some) ds ∧ PostF B Mp rs Gp.length vs G H fps.flatten Q E (m ds)
/-- a def's mirror from its body's: its parameters, then k other names -/
def runB (rs : Sh) (f : Fst) (k : Nat) : Fn := fun ds => match f (ds ++ List.replicate k .non) with
  | .ok (.rt d rho) => .ok (d, rho)
  | .ok (.nx rho) => match rs with
    | .s => .ok (.non, rho)
    | _ => stuck
  | .ok _ => stuck
  | .error e => .error e

theorem OwnL.more : ∀ {Ga : List Sh} {fps : List (List Addr)} {sg : St} {rho : List D} (k : Nat), OwnL B G H Ga fps sg rho → OwnL B G H (Ga ++ List.replicate k .u) (fps ++ List.replicate k []) (sg ++ List.replicate k none) (rho ++ List.replicate k .non)
  | [], _, _, _, k, h => by
    simp only [OwnL] at h
    obtain ⟨rfl, rfl, rfl⟩ := h
    simp only [List.nil_append]
    induction k with
    | zero => simp [OwnL]
    | succ k ih =>
      simp only [List.replicate_succ, OwnL]
      exact ⟨[], _, none, _, .non, _, rfl, rfl, rfl, by simp [Own], ih⟩
  | e :: es, _, _, _, k, h => by
    simp only [OwnL] at h
    obtain ⟨f, fr, v, vr, d, dr, rfl, rfl, rfl, h1, h2⟩ := h
    simp only [List.cons_append, OwnL]
    exact ⟨f, _, v, _, d, _, rfl, rfl, rfl, h1, OwnL.more k h2⟩
theorem flat_more (fps : List (List Addr)) (k : Nat) : (fps ++ List.replicate k []).flatten = fps.flatten := by
  rw [List.flatten_append, flat_rep, List.append_nil]
theorem At.more {Ga : List Sh} {fps : List (List Addr)} {sg : St} {rho : List D} (a : At B G H Ga fps sg rho) (k : Nat) : At B G H (Ga ++ List.replicate k .u) (fps ++ List.replicate k []) (sg ++ List.replicate k none) (rho ++ List.replicate k .non) :=
  ⟨a.own.more k, by rw [flat_more]; exact a.nd, by rw [flat_more]; exact a.gn, a.ex⟩
theorem OwnL.take : ∀ (n : Nat) {Ga : List Sh} {fps : List (List Addr)} {sg : St} {rho : List D}, OwnL B G H Ga fps sg rho → OwnL B G H (Ga.take n) (fps.take n) (sg.take n) (rho.take n)
  | 0, _, _, _, _, _ => by simp [OwnL]
  | n + 1, [], _, _, _, h => by
    simp only [OwnL] at h
    obtain ⟨rfl, rfl, rfl⟩ := h
    simp [OwnL]
  | n + 1, e :: es, _, _, _, h => by
    simp only [OwnL] at h
    obtain ⟨f, fr, v, vr, d, dr, rfl, rfl, rfl, h1, h2⟩ := h
    simp only [List.take_succ_cons, OwnL]
    exact ⟨f, _, v, _, d, _, rfl, rfl, rfl, h1, OwnL.take n h2⟩
theorem flat_take (n : Nat) (fps : List (List Addr)) : ∃ r, fps.flatten = (fps.take n).flatten ++ r := ⟨(fps.drop n).flatten, by rw [← List.flatten_append, List.take_append_drop]⟩
theorem At.take {Ga : List Sh} {fps : List (List Addr)} {sg : St} {rho : List D} (a : At B G H Ga fps sg rho) (n : Nat) : At B G H (Ga.take n) (fps.take n) (sg.take n) (rho.take n) := by
  obtain ⟨r, e⟩ := flat_take n fps
  refine ⟨a.own.take n, ?_, fun x hx => a.gn x (by rw [e]; exact List.mem_append_left _ hx), a.ex⟩
  have := a.nd
  rw [e] at this
  exact (List.nodup_append.mp this).1
/-- the promise is kept -/
theorem sp_body {W : WX} {Gp Mp : List Sh} {rs : Sh} {f : Fst} {k : Nat} {P : List Nat} {M : List Sh} {ts : TS} {N : List Str} {vs : List V} {Q : VK} {E : XK} (hs : SemS B W ⟨P, M, rs, [], []⟩ ts (Gp ++ List.replicate k .u) M f) (hW : ∀ Cl sg H, E (.ref Cl) none H → W (.ref Cl) none sg H)
    (hn : N.length = Gp.length + k) (hM : M.take Gp.length = Mp) (hMl : Mp.length = Gp.length) (hP : ∀ i : Nat, Mp[i]? ≠ some Sh.u → i < Gp.length → i ∈ P) (h : spOf B Gp Mp rs (runB rs f k) vs H Q E) : ts { nx := fun _ H' => Q .non H', rt := Q } (L2.start N vs) H := by
  obtain ⟨hl, G, fps, ds, a, p⟩ := h
  have es : L2.start N vs = vs.map some ++ List.replicate k none := by
    unfold L2.start
    rw [hn, hl, Nat.add_sub_cancel_left]
  rw [es]
  have lm : (vs.map some).length = Gp.length := by simp [hl]
  have fin : ∀ {G1 H1 : Hp} {fps1 : List (List Addr)} {sg1 : St} {rho : List D}, At B G1 H1 M fps1 sg1 rho → Kp P (vs.map some ++ List.replicate k none) sg1 → At B G1 H1 Mp (fps1.take Gp.length) (vs.map some) (rho.take Gp.length) := fun {G1 H1 fps1 sg1 rho} a1 kp => by
    have a2 := a1.take Gp.length
    rw [hM] at a2
    refine a2.slots ?_ rfl (fun i hi => ?_) fun _ _ => rfl
    · rw [lm, (OwnL.lens a2.own).2.1, hMl]
    · by_cases z : i < Gp.length
      · rw [List.getElem?_take, if_pos z, kp i (hP i hi z), List.getElem?_append_left (by rw [lm]; exact z)]
      · rw [List.getElem?_eq_none (by rw [lm]; omega), List.getElem?_take, if_neg z]
  refine hs G H _ _ _ _ (a.more k) ?_
  rw [flat_more]
  have tk : ∀ {fps1 : List (List Addr)}, ∀ x ∈ (fps1.take Gp.length).flatten, x ∈ fps1.flatten := fun {fps1} x hx => by
    obtain ⟨r, e⟩ := flat_take Gp.length fps1
    rw [e]
    exact List.mem_append_left _ hx
  unfold runB at p
  cases e : f (ds ++ List.replicate k .non) with
  | error x =>
    rw [e] at p
    cases x with
    | exc c => exact fun Cl G1 H1 A1 sg1 m st ex => hW Cl sg1 H1 (p Cl G1 H1 A1 m st ex)
    | stuck => exact p
    | fuel => exact p
  | ok z =>
    rw [e] at p
    cases z with
    | rt d rho =>
      intro G1 H1 fps1 sg1 fp v st a1 kp ow nd gn
      have nd' := List.nodup_append.mp nd
      have a2 := fin a1 kp
      refine p G1 H1 _ fp v (st.sub fun x hx => ?_) a2 ow (List.nodup_append.mpr ⟨a2.nd, nd'.2.1, fun x hx y hy e => nd'.2.2 x (tk x hx) y hy e⟩) gn
      rcases List.mem_append.mp hx with z | z
      · exact List.mem_append_left _ (tk x z)
      · exact List.mem_append_right _ z
    | nx rho =>
      simp only at p
      intro G1 H1 fps1 sg1 st a1 kp
      cases rs with
      | s =>
        have a2 := fin a1 kp
        refine p G1 H1 _ [] .non (st.sub fun x hx => ?_) a2 ?_ (by simpa using a2.nd) (by simp)
        · rw [List.append_nil] at hx
          exact tk x hx
        · simp only [Own]
          exact ⟨trivial, .non, rfl, .non⟩
      | _ => exact p.elim
    | bk r => exact p.elim
    | ct r => exact p.elim

/-! ### a def of the text -/
/-- the def called x stands in the module, with its promise -/
structure Def (P : Program) (w : World) (K : PySem.W.Frag) (mg : Str → Option Value) (base : Heap) (k : Nat) (x : Str) (ps : List Str) (Gp Mp : List Sh) (rs : Sh) (m : Fn) : Prop where
  ex : ∃ (f : Addr) (fd : FuncData), mg x = some (.ref f) ∧ PySem.W.keepIn K (.ref f) = true ∧ Binds K fd ps [] ∧ FnG P w K mg base (L2.CX P w) k f fd ps (spOf ⟨K, mg⟩ Gp Mp rs m)
theorem Def.mono {P : Program} {w : World} {K : PySem.W.Frag} {mg : Str → Option Value} {base : Heap} {k j : Nat} {x : Str} {ps : List Str} {Gp Mp : List Sh} {rs : Sh} {m : Fn} (d : Def P w K mg base k x ps Gp Mp rs m) (h : k ≤ j) : Def P w K mg base j x ps Gp Mp rs m := by
  obtain ⟨f, fd, h1, h2, h3, h4⟩ := d.ex
  exact ⟨f, fd, h1, h2, h3, h4.mono h⟩
/-- the body's context -/
abbrev Ctx (P : Program) (w : World) (K : PySem.W.Frag) (mg : Str → Option Value) (base : Heap) (N : List Str) (qual : Str) (st : Stmt) (f : Addr) (cdv : Value) (A : Around) (outer : List Env) (s : Shared) (H : Hp) (E : XK) : Cx :=
  cxOf (L2.CX P w) P w K mg base N qual (defScope st) f cdv A outer s H E
abbrev WEx (E : XK) : WX := fun cls d _ H => E cls d H
theorem def_ok {P : Program} {w : World} {K : PySem.W.Frag} {mg : Str → Option Value} {base : Heap} {k n : Nat} {x : Str} {st : Stmt} {f : Addr} {fd : FuncData} {N ps : List Str} {Gp Mp : List Sh} {rs : Sh} {fb : Fst} {Pn : List Nat} {M : List Sh}
    (F : Fun K x x st f fd) (S : FnScope N ps (defScope st)) (hm : mg x = some (.ref f)) (hb : Binds K fd ps [])
    (body : ∀ (cdv : Value) (A : Around) (outer : List Env) (s : Shared) (H : Hp) (E : XK), RoomG k (Ctx P w K mg base N x st f cdv A outer s H E).A → Takes (Ctx P w K mg base N x st f cdv A outer s H E) (WEx E) →
      PassesOwn (model P w) (Ctx P w K mg base N x st f cdv A outer s H E).A (Ctx P w K mg base N x st f cdv A outer s H E).env (Ctx P w K mg base N x st f cdv A outer s H E).xe →
      ∃ ts, DB (Cf.of (Ctx P w K mg base N x st f cdv A outer s H E)) (WEx E) ⟨Pn, M, rs, [], []⟩ ts (Gp ++ List.replicate n .u) (defBody st) M fb)
    (hn : N.length = Gp.length + n := by rfl) (hps : ps.length = Gp.length := by rfl) (hM : M.take Gp.length = Mp := by rfl) (hMl : Mp.length = Gp.length := by rfl) (hP : (List.range Gp.length).all (fun i => Pn.contains i || (match Mp[i]? with | some .u => true | _ => false)) = true := by rfl) :
    Def P w K mg base (k + 1) x ps Gp Mp rs (runB rs fb n) := by
  refine ⟨f, fd, hm, F.kp, hb, ?_⟩
  refine okG F S (fun vs H Q E h => h.1.trans hps.symm) fun cdv A outer s H vs Q E hr h => ?_
  obtain ⟨ts, d⟩ := body cdv A outer s H E hr (takes_of rfl rfl rfl rfl) (passes_of rfl)
  refine ⟨ts, d.pe (), sp_body (W := WEx E) d.sm (fun _ _ _ h => h) hn hM hMl (fun i hi hl => ?_) h⟩
  have z := List.all_eq_true.mp hP i (List.mem_range.mpr hl)
  rw [Bool.or_eq_true] at z
  rcases z with z | z
  · exact List.contains_iff_mem.mp z
  · split at z
    · rename_i e
      exact absurd e hi
    · cases z

/-! ### calls of one's own defs -/
/-- the slot that an argument borrows -/
def Sh.slot : Sh → Option Nat
  | .b i => some i
  | _ => none
def argFp (fps : List (List Addr)) : Sh → List Addr
  | .b i => fps.getD i []
  | _ => []
/-- the arguments fit the parameters -/
def argOk1 (Ga : List Sh) (g : Sh) : Sh → Bool
  | .s => match g with
    | .s => true
    | _ => false
  | .b i => match g, Ga[i]? with
    | .l .s, some (.l .s) => true
    | .d .s, some (.d .s) => true
    | .l (.l .s), some (.l (.l .s)) => true
    | .d (.l .s), some (.d (.l .s)) => true
    | _, _ => false
  | _ => false
def argOk (Ga : List Sh) : List Sh → List Sh → Bool
  | [], [] => true
  | g :: gs, sh :: ss => argOk1 Ga g sh && argOk Ga gs ss
  | _, _ => false
theorem OwnL.args {Ga : List Sh} {fps : List (List Addr)} {sg : St} {rho : List D} (a : OwnL B G H Ga fps sg rho) : ∀ {Gp shs : List Sh} {vs : List V} {ds : List D}, ValL B G H sg shs vs ds → argOk Ga Gp shs = true →
    OwnL B G H Gp (shs.map (argFp fps)) (vs.map some) (List.zipWith (fun sh d => res sh d rho) shs ds)
  | [], _, _, _, .nil, _ => by simp [OwnL]
  | [], _, _, _, .cons _ _, h => by simp [argOk] at h
  | g :: gs, _, _, _, .nil, h => by simp [argOk] at h
  | g :: gs, sh :: ss, _, _, .cons (v := v) (d := d) h r, k => by
    simp only [argOk, Bool.and_eq_true] at k
    obtain ⟨k1, k2⟩ := k
    have rest := OwnL.args a r k2
    simp only [List.map_cons, List.zipWith_cons_cons, OwnL]
    cases sh with
    | s =>
      cases g with
      | s => exact ⟨[], _, some v, _, d, _, rfl, rfl, rfl, by simp only [Own]; exact ⟨trivial, v, rfl, h.of_s.2⟩, rest⟩
      | _ => simp [argOk1] at k1
    | b i =>
      have same : Ga[i]? = some g := by
        simp only [argOk1] at k1
        split at k1 <;> first | assumption | cases k1
      obtain ⟨fp, v0, d0, e1, e2, e3, o⟩ := a.get same
      obtain ⟨_, _, hv⟩ := h
      rw [hv] at e2
      cases e2
      refine ⟨_, _, some v, _, _, _, rfl, rfl, rfl, ?_, rest⟩
      simp only [argFp, res]
      rw [getD_of e3, List.getD_eq_getElem?_getD, e1]
      exact o
    | _ => simp [argOk1] at k1
/-- footprints of unlike slots -/
theorem flat_slots {fps : List (List Addr)} (nd : fps.flatten.Nodup) : ∀ {is : List Nat}, is.Nodup → (is.map fun i => fps.getD i []).flatten.Nodup ∧ (∀ x ∈ (is.map fun i => fps.getD i []).flatten, x ∈ fps.flatten ∧ ∃ i ∈ is, x ∈ fps.getD i [])
  | [], _ => by simp
  | i :: is, h => by
    obtain ⟨h1, h2⟩ := List.nodup_cons.mp h
    obtain ⟨k1, k2⟩ := flat_slots nd h2
    have one : ∀ (j : Nat), ∀ x ∈ fps.getD j [], x ∈ fps.flatten := fun j x hx => by
      rw [List.getD_eq_getElem?_getD] at hx
      cases e : fps[j]? with
      | none =>
        rw [e] at hx
        simp at hx
      | some fp =>
        rw [e] at hx
        exact flat_mem e hx
    have apart : ∀ {fps : List (List Addr)}, fps.flatten.Nodup → ∀ (i j : Nat), i ≠ j → ∀ x ∈ fps.getD i [], x ∉ fps.getD j [] := by
      intro fps nd
      induction fps with
      | nil =>
        intro i j _ x hx
        simp at hx
      | cons f fr ih =>
        intro i j hij x hx hy
        rw [List.flatten_cons] at nd
        obtain ⟨n1, n2, n3⟩ := List.nodup_append.mp nd
        have mem : ∀ (j : Nat), ∀ x ∈ fr.getD j [], x ∈ fr.flatten := fun j x hx => by
          rw [List.getD_eq_getElem?_getD] at hx
          cases e : fr[j]? with
          | none =>
            rw [e] at hx
            simp at hx
          | some fp =>
            rw [e] at hx
            exact flat_mem e hx
        cases i with
        | zero =>
          cases j with
          | zero => exact hij rfl
          | succ j =>
            simp only [List.getD_cons_zero, List.getD_cons_succ] at hx hy
            exact n3 x hx x (mem j x hy) rfl
        | succ i =>
          cases j with
          | zero =>
            simp only [List.getD_cons_zero, List.getD_cons_succ] at hx hy
            exact n3 x hy x (mem i x hx) rfl
          | succ j =>
            simp only [List.getD_cons_succ] at hx hy
            exact ih n2 i j (fun e => hij (by rw [e])) x hx hy
    have nd1 : ∀ {fps : List (List Addr)}, fps.flatten.Nodup → ∀ i : Nat, (fps.getD i []).Nodup := by
      intro fps nd i
      rw [List.getD_eq_getElem?_getD]
      cases e : fps[i]? with
      | none => simp
      | some fp =>
        simp only [Option.getD_some]
        have : fp ∈ fps := List.mem_of_getElem? e
        obtain ⟨l, r, rfl⟩ := List.append_of_mem this
        rw [List.flatten_append, List.flatten_cons] at nd
        exact (List.nodup_append.mp (List.nodup_append.mp nd).2.1).1
    rw [List.map_cons, List.flatten_cons]
    refine ⟨List.nodup_append.mpr ⟨nd1 nd i, k1, fun x hx y hy e => ?_⟩, fun x hx => ?_⟩
    · subst e
      obtain ⟨_, j, hj, hx2⟩ := k2 x hy
      exact apart nd i j (fun e => h1 (e ▸ hj)) x hx hx2
    · rcases List.mem_append.mp hx with z | z
      · exact ⟨one i x z, i, List.mem_cons_self, z⟩
      · obtain ⟨q1, j, q2, q3⟩ := k2 x z
        exact ⟨q1, j, List.mem_cons_of_mem _ q2, q3⟩
theorem args_flat (fps : List (List Addr)) : ∀ shs : List Sh, (shs.map (argFp fps)).flatten = ((shs.filterMap Sh.slot).map fun i => fps.getD i []).flatten
  | [] => rfl
  | sh :: shs => by
    rw [List.map_cons, List.flatten_cons, args_flat fps shs]
    cases sh <;> simp [argFp, Sh.slot, List.filterMap_cons]
/-- a slot that is not known is filled again -/
theorem At.add {Ga : List Sh} {fps : List (List Addr)} {sg : St} {rho : List D} {i : Nat} {sh : Sh} {fp : List Addr} {v : V} {d : D} (a : At B G H Ga fps sg rho) (hv : sg[i]? = some (some v)) (o : Own B G H sh fp (some v) d) (nd : fp.Nodup) (dj : ∀ x ∈ fp, x ∉ fps.flatten) (gn : ∀ x ∈ fp, G x = none) (hi : i < Ga.length) :
    ∃ fps1, (∀ x ∈ fps1.flatten, x ∈ fp ∨ x ∈ fps.flatten) ∧ At B G H (Ga.set i sh) fps1 sg (rho.set i d) := by
  obtain ⟨fp0, v0, d0, e1, e2, e3, _⟩ := a.own.get (List.getElem?_eq_getElem hi)
  obtain ⟨m1, m2⟩ := flat_set (fp := fp) e1 a.nd nd (fun x hx _ => dj x hx)
  have w := OwnL.put (Ex.refl G) a.own e1 a.nd (fun _ _ _ _ e => e) o
  rw [set_same hv] at w
  refine ⟨_, fun x hx => (m2 x hx).imp id (·.1), w, m1, fun x hx => ?_, a.ex⟩
  rcases m2 x hx with z | ⟨z, _⟩
  · exact gn x z
  · exact a.gn x z
/-- the owned arguments come back: (place of the parameter, slot) -/
def backSh (Mp : List Sh) (Ga : List Sh) : List (Nat × Nat) → List Sh
  | [] => Ga
  | (j, i) :: r => backSh Mp (Ga.set i (Mp.getD j .u)) r
def backD (out : List D) (rho : List D) : List (Nat × Nat) → List D
  | [] => rho
  | (j, i) :: r => backD out (rho.set i (out.getD j .non)) r
theorem At.backs {Mp : List Sh} {fpo : List (List Addr)} {vs : List V} {out : List D} (o : OwnL B G H Mp fpo (vs.map some) out) (nd : fpo.flatten.Nodup) (gn : ∀ x ∈ fpo.flatten, G x = none) : ∀ (ow : List (Nat × Nat)) {Ga : List Sh} {fps : List (List Addr)} {sg : St} {rho : List D}, At B G H Ga fps sg rho →
    (ow.map (·.1)).Nodup → (∀ p ∈ ow, ∃ v, vs[p.1]? = some v ∧ sg[p.2]? = some (some v)) → (∀ p ∈ ow, p.2 < Ga.length) → (∀ p ∈ ow, p.1 < Mp.length) → (∀ p ∈ ow, ∀ x ∈ fpo.getD p.1 [], x ∉ fps.flatten) →
    ∃ fps1, (∀ x ∈ fps1.flatten, x ∈ (ow.map fun p => fpo.getD p.1 []).flatten ∨ x ∈ fps.flatten) ∧ At B G H (backSh Mp Ga ow) fps1 sg (backD out rho ow)
  | [], Ga, fps, sg, rho, a, _, _, _, _, _ => ⟨fps, fun x h => .inr h, a⟩
  | (j, i) :: r, Ga, fps, sg, rho, a, n1, hv, hi, hj, dj => by
    obtain ⟨v, v1, v2⟩ := hv (j, i) List.mem_cons_self
    have hj1 := hj (j, i) List.mem_cons_self
    obtain ⟨fp, v', d, e1, e2, e3, ob⟩ := o.get (List.getElem?_eq_getElem hj1)
    have : v' = some v := by
      rw [List.getElem?_map, v1] at e2
      exact (Option.some.inj e2).symm
    subst this
    have eg : fpo.getD j [] = fp := by
      rw [List.getD_eq_getElem?_getD, e1]
      rfl
    have dj1 := dj (j, i) List.mem_cons_self
    simp only [eg] at dj1
    have ndp : fp.Nodup := by
      have := (flat_slots nd (is := [j]) (by simp)).1
      simpa [e1] using this
    have es : Mp[j] = Mp.getD j .u := by
      rw [List.getD_eq_getElem?_getD, List.getElem?_eq_getElem hj1]
      rfl
    rw [es] at ob
    obtain ⟨f1, s1, a1⟩ := a.add v2 ob ndp dj1 (fun x hx => gn x (flat_mem e1 hx)) (hi (j, i) List.mem_cons_self)
    have ed : d = out.getD j .non := (getD_of e3).symm
    subst ed
    obtain ⟨n2, n3⟩ := List.nodup_cons.mp n1
    obtain ⟨f2, s2, a2⟩ := At.backs o nd gn r a1 n3 (fun p hp => hv p (List.mem_cons_of_mem _ hp)) (fun p hp => by
      rw [List.length_set]
      exact hi p (List.mem_cons_of_mem _ hp)) (fun p hp => hj p (List.mem_cons_of_mem _ hp)) (fun p hp x hx z => by
      rcases s1 x z with q | q
      · have ne : p.1 ≠ j := fun e => n2 (List.mem_map.mpr ⟨p, hp, e⟩)
        have nn := (flat_slots nd (is := [p.1, j]) (by simpa using ne)).1
        simp only [List.map_cons, List.map_nil, List.flatten_cons, List.flatten_nil, List.append_nil] at nn
        rw [eg] at nn
        exact (List.nodup_append.mp nn).2.2 x hx x q rfl
      · exact dj p (List.mem_cons_of_mem _ hp) x hx q)
    refine ⟨f2, fun x hx => ?_, a2⟩
    rcases s2 x hx with q | q
    · exact .inl (by rw [List.map_cons, List.flatten_cons]; exact List.mem_append_right _ q)
    · rcases s1 x q with z | z
      · exact .inl (by rw [List.map_cons, List.flatten_cons]; exact List.mem_append_left _ (by simpa [e1] using z))
      · exact .inr z

theorem At.mdrop2 : ∀ (is : List Nat) {Ga : List Sh} {fps : List (List Addr)} {sg : St} {rho : List D}, At B G H Ga fps sg rho → is.all (fun i => decide (i < Ga.length)) = true →
    ∃ fps1, At B G H (drops Ga is) fps1 sg rho ∧ ∀ x ∈ fps1.flatten, x ∈ fps.flatten ∧ ∀ i ∈ is, x ∉ fps.getD i []
  | [], _, fps, _, _, a, _ => ⟨fps, a, fun x h => ⟨h, by simp⟩⟩
  | i :: is, Ga, fps, sg, rho, a, hl => by
    simp only [List.all_cons, Bool.and_eq_true, decide_eq_true_eq] at hl
    obtain ⟨fp, v, d, e1, e2, e3, o⟩ := a.own.get (List.getElem?_eq_getElem hl.1)
    have ou : Own B G H .u [] v d := by simp [Own]
    have av := a.put (i := i) (sh := .u) (fp := []) (v := v) (d := d) e1 (Ex.refl G) (fun x _ _ o e => e) ou (by simp) (by simp) (by simp) (fun x hx _ => a.gn x hx) a.ex
    rw [set_same e2, set_same e3] at av
    obtain ⟨m1, m2⟩ := flat_set (fp := []) e1 a.nd (by simp) (by simp)
    obtain ⟨f2, a2, k2⟩ := At.mdrop2 is av (by simpa using hl.2)
    refine ⟨f2, a2, fun x hx => ?_⟩
    obtain ⟨q1, q2⟩ := k2 x hx
    rcases m2 x q1 with z | ⟨z1, z2⟩
    · simp at z
    · refine ⟨z1, fun j hj => ?_⟩
      have ei : fps.getD i [] = fp := by
        rw [List.getD_eq_getElem?_getD, e1]
        rfl
      by_cases e : j = i
      · subst e
        rw [ei]
        exact z2
      · rcases List.mem_cons.mp hj with y | y
        · exact absurd y e
        · have := q2 j y
          rw [List.getD_eq_getElem?_getD, List.getElem?_set_ne (fun q => e q.symm), ← List.getD_eq_getElem?_getD] at this
          exact this
theorem ValL.slot {sg : St} : ∀ {shs : List Sh} {vs : List V} {ds : List D} {j i : Nat}, ValL B G H sg shs vs ds → shs[j]? = some (.b i) → ∃ v, vs[j]? = some v ∧ sg[i]? = some (some v)
  | _, _, _, _, _, .nil, e => by simp at e
  | _, _, _, 0, _, .cons h _, e => by
    simp at e
    subst e
    exact ⟨_, rfl, h.2.2⟩
  | _, _, _, j + 1, i, .cons _ r, e => by
    simpa using ValL.slot (j := j) r (by simpa using e)
def owFit (shs : List Sh) (n : Nat) (p : Nat × Nat) : Bool := (match shs[p.1]? with
  | some (.b i) => i == p.2
  | _ => false) && decide (p.1 < n)
theorem backD_take (out : List D) (n : Nat) : ∀ (ow : List (Nat × Nat)) (rho : List D), ow.all (fun p => decide (p.1 < n)) = true → backD (out.take n) rho ow = backD out rho ow
  | [], _, _ => rfl
  | (j, i) :: r, rho, h => by
    simp only [List.all_cons, Bool.and_eq_true, decide_eq_true_eq] at h
    unfold backD
    have : (out.take n).getD j .non = out.getD j .non := by
      rw [List.getD_eq_getElem?_getD, List.getD_eq_getElem?_getD, List.getElem?_take, if_pos h.1]
    rw [this]
    exact backD_take out n r _ (by simpa using h.2)
/-- the mirror of a call: m, the arguments' shapes, the owned ones -/
def fOwn (m : Fn) (shs : List Sh) (ow : List (Nat × Nat)) (fs : Fs) : Fx := fArgs fs fun ds rho => match m (List.zipWith (fun sh d => res sh d rho) shs ds) with
  | .ok (d, out) => .ok (d, backD out rho ow)
  | .error e => .error e
theorem Sem.own {W : WX} {tr : TA} {Ga Ga1 Gp Mp shs : List Sh} {rs : Sh} {fs : Fs} {m : Fn} (ow : List (Nat × Nat)) (h : SemA B W tr Ga Ga1 shs fs) (ok : argOk Ga1 Gp shs = true) (hn : (shs.filterMap Sh.slot).Nodup) (hs : shs.filterMap Sh.slot = ow.map (·.2)) (hj : (ow.map (·.1)).Nodup)
    (hf : ow.all (owFit shs Gp.length) = true) (hl : (ow.map (·.2)).all (fun i => decide (i < Ga1.length)) = true) (hM : Mp.length = Gp.length) (hb : backSh Mp (drops Ga1 (ow.map (·.2))) ow = Ga1) :
    Sem B W (tCallS (spOf B Gp Mp rs m) (WE W) tr) Ga Ga1 rs (fOwn m shs ow fs) := fun G H fps sg rho Q av p => by
  refine h G H fps sg rho _ av ?_
  unfold fOwn fArgs at p
  cases e : fs rho with
  | error x =>
    rw [e] at p
    exact p.errA
  | ok z =>
    obtain ⟨ds, rho1⟩ := z
    rw [e] at p
    intro G1 H1 fps1 vs st1 a1 vl
    have p1 := p.later st1
    simp only at p1
    have oa := a1.own.args vl ok
    have ef : (shs.map (argFp fps1)).flatten = ((ow.map (·.2)).map fun i => fps1.getD i []).flatten := by rw [args_flat, hs]
    obtain ⟨fn1, fn2⟩ := flat_slots a1.nd (hs ▸ hn : (ow.map (·.2)).Nodup)
    have sub : ∀ x ∈ (shs.map (argFp fps1)).flatten, x ∈ fps1.flatten := fun x hx => (fn2 x (ef ▸ hx)).1
    refine ⟨by have := (OwnL.lens oa).2.1; simpa using this, G1, _, _, ⟨oa, by rw [ef]; exact fn1, fun x hx => a1.gn x (sub x hx), a1.ex⟩, ?_⟩
    cases e2 : m (List.zipWith (fun sh d => res sh d rho1) shs ds) with
    | error x =>
      rw [e2] at p1
      cases x with
      | exc c => exact fun Cl G2 H2 A2 mc st2 ex => p1 Cl G2 H2 A2 mc (st2.wide sub) ex
      | stuck => exact p1
      | fuel => exact p1
    | ok z =>
      obtain ⟨d, out⟩ := z
      rw [e2] at p1
      intro G2 H2 fpo fp v st2 ao ov nd gn
      have nd' := List.nodup_append.mp nd
      obtain ⟨fd, ad, kd⟩ := a1.mdrop2 (ow.map (·.2)) hl
      have nin : ∀ x ∈ fd.flatten, x ∉ (shs.map (argFp fps1)).flatten := fun x hx hz => by
        rw [ef] at hz
        obtain ⟨_, i, hi, hxi⟩ := fn2 x hz
        exact (kd x hx).2 i hi hxi
      have new : ∀ x, x ∈ fpo.flatten ∨ x ∈ fp → x ∉ fd.flatten := fun x hx hz => by
        rcases st2.foot x (by rcases hx with q | q; exact List.mem_append_left _ q; exact List.mem_append_right _ q) with q | q
        · exact nin x hz q
        · exact OwnL.dom a1.own x (kd x hz).1 q
      have ad2 : At B G2 H2 (drops Ga1 (ow.map (·.2))) fd sg rho1 := ad.same st2 nin ao.ex
      have hf1 : ∀ p ∈ ow, shs[p.1]? = some (.b p.2) ∧ p.1 < Gp.length := fun p hp => by
        have := List.all_eq_true.mp hf p hp
        simp only [owFit, Bool.and_eq_true, decide_eq_true_eq] at this
        refine ⟨?_, this.2⟩
        have t := this.1
        split at t
        · rename_i i ei
          rw [ei, beq_iff_eq.mp t]
        · cases t
      obtain ⟨f3, s3, a3⟩ := At.backs ao.own ao.nd ao.gn ow ad2 hj (fun p hp => vl.slot (hf1 p hp).1) (fun p hp => by
        rw [drops_len]
        have := List.all_eq_true.mp hl p.2 (List.mem_map_of_mem hp)
        exact of_decide_eq_true this) (fun p hp => by rw [hM]; exact (hf1 p hp).2) (fun p hp x hx => new x (.inl (by
          rw [List.getD_eq_getElem?_getD] at hx
          cases e5 : fpo[p.1]? with
          | none =>
            rw [e5] at hx
            simp at hx
          | some q =>
            rw [e5] at hx
            exact flat_mem e5 hx)))
      rw [hb] at a3
      have in3 : ∀ x ∈ f3.flatten, x ∈ fpo.flatten ∨ x ∈ fd.flatten := fun x hx => by
        rcases s3 x hx with q | q
        · obtain ⟨l, hl1, hl2⟩ := List.mem_flatten.mp q
          obtain ⟨pr, hp, rfl⟩ := List.mem_map.mp hl1
          rw [List.getD_eq_getElem?_getD] at hl2
          cases e5 : fpo[pr.1]? with
          | none =>
            rw [e5] at hl2
            simp at hl2
          | some q =>
            rw [e5] at hl2
            exact .inl (flat_mem e5 hl2)
        · exact .inr q
      have w2 := st2.wide sub
      rw [backD_take] at a3
      · refine p1 G2 H2 f3 fp v ⟨⟨w2.g, w2.gn, w2.keep, w2.dom, fun x hx => ?_⟩, a3, .own ov, List.nodup_append.mpr ⟨a3.nd, nd'.2.1, fun x hx y hy e => ?_⟩, gn⟩
        · rcases List.mem_append.mp hx with q | q
          · rcases in3 x q with r | r
            · exact w2.foot x (List.mem_append_left _ r)
            · exact .inl (kd x r).1
          · exact w2.foot x (List.mem_append_right _ q)
        · subst e
          rcases in3 x hx with r | r
          · exact nd'.2.2 x r x hy rfl
          · exact new x (.inr hy) r
      · exact List.all_eq_true.mpr fun p hp => decide_eq_true (hf1 p hp).2
theorem DE.own {I : Type} {X : Cf I} {W : WX} {k j : Nat} {x : Str} {ps : List Str} {tr : TA} {Ga Ga1 Gp Mp shs : List Sh} {rs : Sh} {fs : Fs} {m : Fn} {e : Expr} {es : List Expr} {p pos : Pos} (ow : List (Nat × Nat)) (d : Def X.prog X.w X.K X.mg X.base k x ps Gp Mp rs m) (hr : RoomG j X.A) (tk : ∀ ii, Takes (X.at ii) W) (hk : decide (k ≤ j) = true)
    (ha : DA X W tr Ga (e :: es) Ga1 shs fs) (ok : argOk Ga1 Gp shs = true := by rfl) (hn : (shs.filterMap Sh.slot).Nodup := by decide) (hs : shs.filterMap Sh.slot = ow.map (·.2) := by rfl) (hj : (ow.map (·.1)).Nodup := by decide)
    (hf : ow.all (owFit shs Gp.length) = true := by rfl) (hl : (ow.map (·.2)).all (fun i => decide (i < Ga1.length)) = true := by rfl) (hM : Mp.length = Gp.length := by rfl) (hb : backSh Mp (drops Ga1 (ow.map (·.2))) ow = Ga1 := by rfl) (hg : ∀ ii, Gl (X.at ii) x := by intro _; rfl)
    (hdb : (x == ("__debug__" : Str)) = false := by decide) (he : ∀ ii, starEach (e :: es) (X.env ii) = (false, eval e (X.env ii)) :: starEach es (X.env ii) := by intro _; rfl) (hpl : ∀ ii, (backTo pos (starEach es (X.env ii))).any (·.1) = false := by intro _; rfl) :
    DE X W (tCallS (spOf (bd X) Gp Mp rs m) (WE W) tr) Ga (.Call (.Name x p) (e :: es) [] pos) Ga1 rs (fOwn m shs ow fs) := by
  obtain ⟨f, fd, h1, h2, h3, h4⟩ := d.ex
  exact ⟨fun ii => pe_callG h4 (hr.mono (of_decide_eq_true hk)) (hg ii) h1 h2 h3 (fun sg => passAt (tk ii) sg) (ha.pe ii) hdb (he ii) (hpl ii), Sem.own ow ha.sm ok hn hs hj hf hl hM hb⟩
end EB
namespace EB
open PySem L2
variable {B : Bd} {G G' G1 G2 G3 H H' H1 H2 H3 : Hp} {A A1 A2 A3 F : List Addr}
theorem Val.fm {sg : St} {sh : Sh} {v : V} {d : D} (h : Val B G H sg sh [] v d) (g : Ex G G1) (H1 : Hp) : Val B G1 H1 sg sh [] v d := Val.mono g (by simp) h
section
variable {I : Type} {X : Cf I} {W : WX} {C : Ctl} {Ga Ga1 Ga2 Ga3 Ga4 : List Sh} {sa sb sc sh : Sh} {fa fb fc : Fx} {a b c e : Expr} {ta tb tc te : TE} {tt : TT} {cf : Fb} {pos p p2 p3 : Pos} {ts tu : TS} {f g : Fst} {st : Stmt} {rest sts sts2 : List Stmt} {fs : Fs}
/-! ### -x -/
def dNeg : D → R D
  | .int i => .ok (.int (-i))
  | _ => stuck
theorem Sem.neg (ha : Sem B W ta Ga Ga1 .s fa) : Sem B W (tUn (rU fun i => .int (-i)) ta) Ga Ga1 .s (fOp1 dNeg .s fa) := Sem.un (r := rU fun i => .int (-i)) ha rfl fun G H fps sg rho d v Q a v1 p => by
  unfold dNeg at p
  split at p
  · rename_i i e
    cases e
    cases v1.of_s.2
    exact ⟨i, rfl, Post.flat a p (.int _)⟩
  · exact p.elim
theorem DE.neg (ha : DE X W ta Ga a Ga1 .s fa) : DE X W (tUn (rU fun i => .int (-i)) ta) Ga (.UnaryOp .USub a pos) Ga1 .s (fOp1 dNeg .s fa) := ⟨fun ii => pe_un un_neg (ha.pe ii), Sem.neg ha.sm⟩

/-! ### slices -/
def cutD (ds : List D) (lo hi : Option Int) : List D := (ds.drop (HT.sIx ds.length 0 lo)).take (HT.sIx ds.length ds.length hi - HT.sIx ds.length 0 lo)
theorem Reps.cut {vs : List V} {ds : List D} (r : Reps B G vs ds) (lo hi : Option Int) : Reps B G (cutV vs lo hi) (cutD ds lo hi) := by
  unfold cutV cutD
  rw [r.length]
  exact (r.drop _).take _
theorem cut_whole {ds : List D} {lo hi : Option Int} (h : HT.sIx ds.length 0 lo = 0 ∧ HT.sIx ds.length ds.length hi = ds.length) : cutD ds lo hi = ds := by
  unfold cutD
  rw [h.1, h.2, List.drop_zero, Nat.sub_zero, List.take_length]
def dSl : D → Option Int → Option Int → R D
  | .lst ds, lo, hi => .ok (.lst (cutD ds lo hi))
  | .tup ds, lo, hi => .ok (.tup (cutD ds lo hi))
  | _, _, _ => stuck
def rSlQ (K : PySem.W.Frag) : V → Option Int → Option Int → Hp → VK → Prop := fun x lo hi H Q => ∃ a xs, x = .ref a ∧ SqT K H a xs ∧
  (HT.sIx xs.length 0 lo = 0 ∧ HT.sIx xs.length xs.length hi = xs.length → Q (.ref a) H) ∧ (¬ (HT.sIx xs.length 0 lo = 0 ∧ HT.sIx xs.length xs.length hi = xs.length) → ∀ p o, H p = none → o.cls = .type "tuple" → o.dict = none → Q (.ref p) (upd H p (.frz o (.tup (cutV xs lo hi)))))
theorem sl_tupQ {X : Cx} : SlR X (rSlQ X.K) := by
  intro pins s sg H x v vl vu lo hi sl Q I rx hs pl pu h
  obtain ⟨a, xs, rfl, hx, q1, q2⟩ := h
  cases rx
  obtain ⟨its, r, ht, hz⟩ := I.tuple hx
  have hlen : its.toArray.size = xs.length := by rw [List.size_toArray]; exact r.length.symm
  refine ⟨"tuple", _, PyProof.Rows.slot_tuple_getitem.lookup, ht.typeIs, ?_⟩
  by_cases hw : HT.sIx xs.length 0 lo = 0 ∧ HT.sIx xs.length xs.length hi = xs.length
  · exact getItem_tuple_whole ht hs pl pu (by rw [hlen]; exact hw) ⟨.ref a, H, I, rfl, q1 hw⟩
  · refine HT.getItem_tuple_cut ht hs pl pu (by rw [hlen]; exact hw) ?_ (by rw [hlen]; exact hz)
    rw [hlen]
    refine ⟨.ref s.heap.objs.size, _, I.laid (t' := s.toks) (o := .frz { cls := .type "tuple", data := .seq ((List.take (HT.sIx xs.length xs.length hi - HT.sIx xs.length 0 lo) (List.drop (HT.sIx xs.length 0 lo) its.toArray.toList)).toArray) } (.tup (cutV xs lo hi))) (fun b ob q => Heap.get?_push_of_some _ q) (Nat.le_refl _) ?n, rfl, q2 hw _ _ (I.hok.fresh (Nat.le_refl _)) rfl rfl⟩
    case n => exact ⟨Heap.get?_push_size _ rfl, Nat.le_trans (cutV_length xs lo hi) hz, _, (r.drop (HT.sIx xs.length 0 lo)).take (HT.sIx xs.length xs.length hi - HT.sIx xs.length 0 lo), PyProof.Rows.IsTup.new _ _⟩
def rSlX (K : PySem.W.Frag) : V → Option Int → Option Int → Hp → VK → Prop := fun x lo hi H Q => rSlL K x lo hi H Q ∨ rSlQ K x lo hi H Q
theorem sl_any {X : Cx} : SlR X (rSlX X.K) := sl_list.or sl_tupQ
theorem sl_view {Ga : List Sh} {fps : List (List Addr)} {sg : St} {rho : List D} {sh : Sh} {v : V} {d : D} {lo hi : Option Int} {Q : VK} (a : At B G H Ga fps sg rho) (h : Val B G H sg sh [] v d) (s : seen1 Ga sh = true) (p : Post B W Ga .s sg G H fps.flatten Q (lift (dSl (res sh d rho) lo hi) rho)) :
    rSlX B.K v lo hi H Q := by
  unfold dSl at p
  split at p
  · rename_i ds _ _ e
    obtain ⟨l, vs, rfl, hl, r⟩ := a.seqL h s e
    exact .inl ⟨l, vs, rfl, hl.sq, fun q hq => p _ _ _ _ _ (Res.new a hq (.lst (SL.of upd_same) ((r.cut _ _).mono (Ex.new (a.ex.free hq)))))⟩
  · rename_i ds _ _ e
    have r := a.seqT h s e
    have r0 := r
    cases r with
    | tup hq rs =>
      refine .inr ⟨_, _, rfl, a.ex.sqt hq.sqt, fun z => ?_, fun z q o hq o1 o2 => ?_⟩
      · rw [rs.length] at z
        rw [cut_whole z] at p
        exact Post.flat a p r0
      · exact p _ _ _ _ _ (Res.new a hq (.tup (TQ.of upd_same o1 o2) ((rs.cut _ _).mono (Ex.new (a.ex.free hq)))))
  · exact p.elim
/-- x[a:b] with the parts that are there -/
def fSl00 (sa : Sh) (fa : Fx) : Fx := fUn fa fun d rho => lift (dSl (res sa d rho) none none) rho
def fSl10 (sa : Sh) (fa fb : Fx) : Fx := fUn fa fun d => fUn fb fun i rho => match i with
  | .int i => lift (dSl (res sa d rho) (some i) none) rho
  | _ => stuck
def fSl01 (sa : Sh) (fa fb : Fx) : Fx := fUn fa fun d => fUn fb fun i rho => match i with
  | .int i => lift (dSl (res sa d rho) none (some i)) rho
  | _ => stuck
def fSl11 (sa : Sh) (fa fb fc : Fx) : Fx := fUn fa fun d => fUn fb fun i => match i with
  | .int i => fUn fc fun j rho => match j with
    | .int j => lift (dSl (res sa d rho) (some i) (some j)) rho
    | _ => stuck
  | _ => fun _ => stuck
theorem DE.sl00 (ha : DE X W ta Ga a Ga1 sa fa) (fl : sa.flat = true := by rfl) (s1 : seen1 Ga1 sa = true := by rfl) : DE X W (tSl (rSlX X.K) ta tNoPart tNoPart) Ga (.Subscript a (.Slice none none none p2) pos) Ga1 .s (fSl00 sa fa) :=
  ⟨fun ii => pe_slice sl_any (ha.pe ii) po_none po_none, fun G H fps sg rho Q av h => ha.sm G H fps sg rho _ av (h.un fl fun G1 H1 fps1 d rho1 v a1 v1 st h1 => sl_view a1 v1 s1 h1)⟩
theorem DE.sl10 (ha : DE X W ta Ga a Ga1 sa fa) (hb : DE X W tb Ga1 b Ga2 .s fb) (fl : sa.flat = true := by rfl) (s1 : seen1 Ga2 sa = true := by rfl) : DE X W (tSl (rSlX X.K) ta (tPart tb) tNoPart) Ga (.Subscript a (.Slice (some b) none none p2) pos) Ga2 .s (fSl10 sa fa fb) :=
  ⟨fun ii => pe_slice sl_any (ha.pe ii) (po_some (hb.pe ii)) po_none, fun G H fps sg rho Q av h => ha.sm G H fps sg rho _ av (h.un fl fun G1 H1 fps1 d rho1 v a1 v1 st h1 => hb.sm G1 H1 fps1 sg rho1 _ a1 (h1.un rfl fun G2 H2 fps2 i rho2 w a2 w2 st2 h2 => by
    cases i with
    | int i =>
      cases w2.of_s.2
      exact ⟨i, rfl, sl_view a2 (v1.fm st2.g _) s1 h2⟩
    | _ => exact h2.elim))⟩
theorem DE.sl01 (ha : DE X W ta Ga a Ga1 sa fa) (hb : DE X W tb Ga1 b Ga2 .s fb) (fl : sa.flat = true := by rfl) (s1 : seen1 Ga2 sa = true := by rfl) : DE X W (tSl (rSlX X.K) ta tNoPart (tPart tb)) Ga (.Subscript a (.Slice none (some b) none p2) pos) Ga2 .s (fSl01 sa fa fb) :=
  ⟨fun ii => pe_slice sl_any (ha.pe ii) po_none (po_some (hb.pe ii)), fun G H fps sg rho Q av h => ha.sm G H fps sg rho _ av (h.un fl fun G1 H1 fps1 d rho1 v a1 v1 st h1 => hb.sm G1 H1 fps1 sg rho1 _ a1 (h1.un rfl fun G2 H2 fps2 i rho2 w a2 w2 st2 h2 => by
    cases i with
    | int i =>
      cases w2.of_s.2
      exact ⟨i, rfl, sl_view a2 (v1.fm st2.g _) s1 h2⟩
    | _ => exact h2.elim))⟩
theorem DE.sl11 (ha : DE X W ta Ga a Ga1 sa fa) (hb : DE X W tb Ga1 b Ga2 .s fb) (hc : DE X W tc Ga2 c Ga3 .s fc) (fl : sa.flat = true := by rfl) (s1 : seen1 Ga3 sa = true := by rfl) : DE X W (tSl (rSlX X.K) ta (tPart tb) (tPart tc)) Ga (.Subscript a (.Slice (some b) (some c) none p2) pos) Ga3 .s (fSl11 sa fa fb fc) :=
  ⟨fun ii => pe_slice sl_any (ha.pe ii) (po_some (hb.pe ii)) (po_some (hc.pe ii)), fun G H fps sg rho Q av h => ha.sm G H fps sg rho _ av (h.un fl fun G1 H1 fps1 d rho1 v a1 v1 st h1 => hb.sm G1 H1 fps1 sg rho1 _ a1 (h1.un rfl fun G2 H2 fps2 i rho2 w a2 w2 st2 h2 => by
    cases i with
    | int i =>
      cases w2.of_s.2
      exact ⟨i, rfl, hc.sm G2 H2 fps2 sg rho2 _ a2 (Post.un rfl h2 fun G3 H3 fps3 j rho3 x a3 x3 st3 h3 => by
        cases j with
        | int j =>
          cases x3.of_s.2
          exact ⟨j, rfl, sl_view a3 ((v1.fm st2.g H2).fm st3.g H3) s1 h3⟩
        | _ => exact h3.elim)⟩
    | _ => exact h2.elim))⟩

/-! ### a < b < c of whole numbers -/
def fChain (g g' : D → D → R D) (fa fb fc : Fx) : Fx := fUn fa fun x => fUn fb fun y rho => match g x y with
  | .ok (.bl k) => if k then fUn fc (fun z rho => lift (g' y z) rho) rho else .ok (.bl false, rho)
  | _ => stuck
theorem Sem.chain {r r' : R2} {g g' : D → D → R D} (ha : Sem B W ta Ga Ga1 .s fa) (hb : Sem B W tb Ga1 Ga2 .s fb) (hc : Sem B W tc Ga2 Ga2 .s fc) (hr : Op2 B r g) (hr' : Op2 B r' g') :
    Sem B W (tChain r r' ta tb tc) Ga Ga2 .s (fChain g g' fa fb fc) := fun G H fps sg rho Q av h =>
  ha G H fps sg rho _ av (Post.un rfl h fun G1 H1 fps1 x rho1 v a1 v1 st h1 => hb G1 H1 fps1 sg rho1 _ a1 (Post.un rfl h1 fun G2 H2 fps2 y rho2 w a2 w2 st2 h2 => by
    split at h2
    · rename_i k eg
      refine hr G2 H2 W Ga2 fps2 sg rho2 .s .s x y v w _ a2 (v1.fm st2.g _) w2 rfl rfl ?_
      simp only [res, eg, lift]
      intro G3 H3 fps3 fp3 u r3
      obtain ⟨rfl, ru⟩ := r3.vl.of_s
      cases ru
      have st3 := r3.st
      rw [List.append_nil] at st3
      have h3 := h2.later st3
      refine ⟨k, rfl, ?_⟩
      cases k with
      | true =>
        simp only [if_true] at h3 ⊢
        exact hc G3 H3 fps3 sg rho2 _ r3.av (Post.un rfl h3 fun G4 H4 fps4 z rho4 u a4 u4 st4 h4 => hr' G4 H4 W Ga2 fps4 sg rho4 .s .s y z w u _ a4 ((w2.fm st3.g H3).fm st4.g H4) u4 rfl rfl h4)
      | false =>
        simp only [Bool.false_eq_true, if_false] at h3 ⊢
        exact h3 G3 H3 fps3 [] _ (Res.pure r3.av (.bl false))
    · exact h2.elim))
theorem DE.chain {op op' : CmpOp} {r r' : R2} {g g' : D → D → R D} (ho : ∀ ii, OpR (X.at ii) (compareOp op) r) (ho' : ∀ ii, OpR (X.at ii) (compareOp op') r') (hr : Op2 (bd X) r g) (hr' : Op2 (bd X) r' g') (ha : DE X W ta Ga a Ga1 .s fa) (hb : DE X W tb Ga1 b Ga2 .s fb) (hc : DE X W tc Ga2 c Ga2 .s fc)
    (hm : lastMarks [op, op'] [b, c] = false := by with_unfolding_all rfl) : DE X W (tChain r r' ta tb tc) Ga (.Compare a [op, op'] [b, c] pos) Ga2 .s (fChain g g' fa fb fc) := ⟨fun ii => pe_chain (ho ii) (ho' ii) (ha.pe ii) (hb.pe ii) (hc.pe ii) hm, Sem.chain ha.sm hb.sm hc.sm hr hr'⟩
theorem DT.chain {op op' : CmpOp} {r r' : R2} {g g' : D → D → R D} (ho : ∀ ii, OpR (X.at ii) (compareOp op) r) (ho' : ∀ ii, OpR (X.at ii) (compareOp op') r') (hr : Op2 (bd X) r g) (hr' : Op2 (bd X) r' g') (ha : DE X W ta Ga a Ga1 .s fa) (hb : DE X W tb Ga1 b Ga2 .s fb) (hc : DE X W tc Ga2 c Ga2 .s fc)
    (hm : lastMarks [op, op'] [b, c] = false := by with_unfolding_all rfl) : DT X W (tTest (tChain r r' ta tb tc)) Ga (.Compare a [op, op'] [b, c] pos) Ga2 (fTest (fChain g g' fa fb fc) asB) := ⟨fun ii => pt_chain (ho ii) (ho' ii) (ha.pe ii) (hb.pe ii) (hc.pe ii) hm, Sem.test (Sem.chain ha.sm hb.sm hc.sm hr hr')⟩

/-! ### list.index -/
/-- the first place of a like item -/
def pyIdx (p : PyData) : List PyData → Option Nat
  | [] => none
  | q :: qs => if PyData.eqv q p then some 0 else (pyIdx p qs).map (· + 1)
theorem pyIdx_spec {p : PyData} : ∀ {ps : List PyData} {j : Nat}, pyIdx p ps = some j → ∃ z, ps[j]? = some z ∧ PyData.eqv z p = true ∧ ∀ (m : Nat) (z' : PyData), m < j → ps[m]? = some z' → PyData.eqv z' p = false
  | [], _, h => by cases h
  | q :: qs, j, h => by
    unfold pyIdx at h
    split at h
    · rename_i e
      cases h
      exact ⟨q, rfl, e, fun m z' hm => absurd hm (Nat.not_lt_zero _)⟩
    · rename_i e
      obtain ⟨i, hi, rfl⟩ := Option.map_eq_some_iff.mp h
      obtain ⟨z, h1, h2, h3⟩ := pyIdx_spec hi
      refine ⟨z, by simpa using h1, h2, fun m z' hm hz => ?_⟩
      cases m with
      | zero =>
        simp at hz
        subst hz
        simpa using e
      | succ m => exact h3 m z' (by omega) (by simpa using hz)
def dIdx : D → D → R D
  | .lst ds, x => match D.pys ds, x.py with
    | some ps, some p => if SeqAt.shaped (.list ps) = true ∧ SeqAt.shaped p = true then (match pyIdx p ps with
      | some j => .ok (.int (j : Nat))
      | none => stuck) else stuck
    | _, _ => stuck
  | _, _ => stuck
def D.isL : D → Bool
  | .lst _ => true
  | _ => false
def fIdx (sa : Sh) (fa fb : Fx) : Fx := fUn fa fun d rho => if (res sa d rho).isL then fUn fb (fun x rho => lift (dIdx (res sa d rho) x) rho) rho else stuck
theorem Sem.idx (ha : Sem B W ta Ga Ga1 sa fa) (hb : Sem B W tb Ga1 Ga2 .s fb) (fl : sa.flat = true) (s0 : seen Ga1 sa = true) (s1 : seen Ga2 sa = true) : Sem B W (tBM B.K "list" (rIndexD B.K) ta (tCons tb tNil)) Ga Ga2 .s (fIdx sa fa fb) := fun G H fps sg rho Q av h =>
  ha G H fps sg rho _ av (h.un fl fun G1 H1 fps1 d rho1 v a1 v1 st h1 => by
    split at h1
    · rename_i hL
      refine ⟨?_, hb G1 H1 fps1 sg rho1 _ a1 (Post.un rfl h1 fun G2 H2 fps2 x rho2 w a2 w2 st2 h2 => ?_)⟩
      · obtain ⟨G', _, x', r⟩ := a1.view v1 s0
        generalize res sa d rho1 = z at r hL
        cases r with
        | lst hl rs => exact .inl ⟨rfl, _, (x'.sl hl).sq⟩
        | _ => simp [D.isL] at hL
      · have v2 := v1.mono st2.g (H' := H2) (by simp)
        obtain ⟨G', _, x', r⟩ := a2.view v2 s1
        unfold dIdx at h2
        split at h2
        · rename_i ds _ ed
          split at h2
          · rename_i ps p e1 e2
            split at h2
            · rename_i hsh
              split at h2
              · rename_i j ej
                obtain ⟨z, z1, z2, z3⟩ := pyIdx_spec ej
                have rd : Dp B.K H2 v (.list ps) := r.dp x' (by rw [ed]; simp [D.py, e1])
                cases rd with
                | lst hq hd => exact ⟨_, w, p, ps, j, z, rfl, rfl, .lst hq hd, (w2.of_s.2).dp a2.ex e2, hsh.1, hsh.2, z1, z2, z3, Post.flat a2 h2 (.int _)⟩
              · exact h2.elim
            · exact h2.elim
          · exact h2.elim
        · exact h2.elim
    · exact h1.elim)
theorem DE.idx (hu : X.A.units + 65 < cLine) (ha : DE X W ta Ga a Ga1 sa fa) (hb : DE X W tb Ga1 b Ga2 .s fb) (fl : sa.flat = true := by rfl) (s0 : seen Ga1 sa = true := by rfl) (s1 : seen Ga2 sa = true := by rfl)
    (hbase : ∀ ii, attributeBase a "index" (X.env ii) (eval a (X.env ii)) = eval a (X.env ii) := by intro _; rfl)
    (hfew : ∀ ii, ((backTo p2 (starEach (b :: []) (X.env ii))).all (fun x => !x.1) && (backToKw p2 (keywordEach [] (X.env ii))).all (fun x => x.1.isSome)
      && decide ((b :: []).length + ([] : List Keyword).length + (if ([] : List Keyword).isEmpty then 0 else 1) < 30)) = true := by intro _; rfl)
    (hline : (p3.endLine == p2.line) = true := by rfl) (hs : ∀ ii, starEach (b :: []) (X.env ii) = (false, eval b (X.env ii)) :: starEach [] (X.env ii) := by intro _; rfl) (hplain : ∀ ii, (backTo p2 (starEach [] (X.env ii))).any (·.1) = false := by intro _; rfl) :
    DE X W (tBM X.K "list" (rIndexD X.K) ta (tCons tb tNil)) Ga (.Call (.Attribute a "index" p3) [b] [] p2) Ga2 .s (fIdx sa fa fb) :=
  ⟨fun ii => pe_bm PySem.F.plainAttrs_list PySem.F.slot_list_index PySem.F.type_list_index (mt_indexD hu) (ha.pe ii) (pa_cons (hb.pe ii) pa_nil (hs ii)) (hbase ii) (hfew ii) hline (hs ii) (hplain ii), Sem.idx ha.sm hb.sm fl s0 s1⟩

/-! ### raise X('..') -/
def sRaise (c : Str) : Fst := fun _ => .error (.exc c)
/-- an exception class of one's own, without an __init__ -/
structure Exc (K : PySem.W.Frag) (mg : Str → Option Value) (x : Str) (C : Addr) : Prop where
  g : mg x = some (.ref C)
  x : PySem.W.excIn K C [.type "ValueError", .type "Exception", .type "BaseException", .type "object"] "ValueError.__new__" = true
  k : PySem.W.keepIn K (.ref C) = true
  b : PySem.W.subIn K (.ref C) (.type "BaseException") = some true
  t : PySem.W.typeIn K (.ref C) = some (.type "type")
theorem DS.raise {x m : Str} {j : Nat} {Cl : Addr} (hc : X.calm = true) (tk : ∀ ii, Takes (X.at ii) W) (T : Exc X.K X.mg x Cl) (hg : ∀ ii, Gl (X.at ii) x := by intro _; rfl) (hdb : (x == ("__debug__" : Str)) = false := by decide) :
    DS X W C (fun _ sg H => W (.ref Cl) none sg H) Ga (.Raise (some (.Call (.Name x p) [.Constant (.str m) j p2] [] p3)) none pos) Ga2 (sRaise x) :=
  ⟨fun ii => ps_raise hc (tk ii) (pmk_own PySem.F.excBase_ValueError T.x T.g T.k (raises_own T.b T.t) (hg ii) hdb), fun G H fps sg rho E a q => q Cl G H fps.flatten sg T.g (Step.refl _ _ _) a.ex⟩
theorem ends_raise {x : Str} : sEnds (sRaise x) := fun rho rho' h => by cases h
end
theorem hu65 {k : Nat} {A : Around} (hr : RoomG k A) : A.units + 65 < cLine := by
  have := hr.r.un
  omega
end EB
namespace EB
open PySem L2
variable {B : Bd} {G G' G1 G2 G3 H H' H1 H2 H3 : Hp} {A A1 A2 A3 F : List Addr}
section
variable {I : Type} {X : Cf I} {W : WX} {C : Ctl} {Ga Ga1 Ga2 Ga3 Ga4 : List Sh} {sa sb sc sh : Sh} {fa fb fc : Fx} {a b c e : Expr} {ta tb tc te : TE} {tt : TT} {cf : Fb} {pos p p2 p3 : Pos} {ts tu : TS} {f g : Fst} {st : Stmt} {rest sts sts2 : List Stmt} {fs : Fs}
/-! ### shapes written out -/
theorem DS.to (Gb : List Sh) (h : DS X W C ts Ga st Ga1 f) (hG : Ga1 = Gb := by rfl) : DS X W C ts Ga st Gb f := hG ▸ h
theorem DE.to (Gb : List Sh) (h : DE X W te Ga e Ga1 sh fa) (hG : Ga1 = Gb := by rfl) : DE X W te Ga e Gb sh fa := hG ▸ h
/-! ### a name's own list is handed on -/
theorem sem_mv {i : Nat} (hg : Ga[i]? = some sh) (hf : sh.own = true) : Sem B W (tVar i) Ga (Ga.set i .u) sh (fVar i) := fun G H fps sg rho Q a h => by
  obtain ⟨fp, v, d, e1, e2, e3, o⟩ := a.own.get hg
  obtain ⟨x, rfl⟩ := o.there hf
  have h' : Post B W (Ga.set i .u) sh sg G H fps.flatten Q (.ok (rho.getD i .non, rho)) := h
  rw [getD_of e3] at h'
  have ou : Own B G H .u [] (some (.ref x)) d := by simp [Own]
  have av := a.put (i := i) (sh := .u) (fp := []) (v := some (.ref x)) (d := d) e1 (Ex.refl G) (fun x _ _ o e => e) ou (by simp) (by simp) (by simp) (fun x hx _ => a.gn x hx) a.ex
  rw [set_same e2, set_same e3] at av
  obtain ⟨m1, m2⟩ := flat_set (fp := []) e1 a.nd (by simp) (by simp)
  have ndp : fp.Nodup := by
    have := (flat_slots a.nd (is := [i]) (by simp)).1
    simpa [e1] using this
  refine ⟨.ref x, e2, h' G H _ fp (.ref x) ⟨⟨Ex.refl G, fun x h h' => absurd h h', fun _ _ _ e => e, fun _ h => h, fun y hy => ?_⟩, av, .own o, List.nodup_append.mpr ⟨m1, ndp, fun y hy z hz e => ?_⟩, fun y hy => a.gn y (flat_mem e1 hy)⟩⟩
  · rcases List.mem_append.mp hy with z | z
    · rcases m2 y z with q | ⟨q, _⟩
      · simp at q
      · exact .inl q
    · exact .inl (flat_mem e1 z)
  · subst e
    rcases m2 y hy with q | ⟨_, q⟩
    · simp at q
    · exact q hz
theorem DE.mv (i : Nat) {x : Str} (sh : Sh) (hg : Ga[i]? = some sh := by rfl) (hf : sh.own = true := by rfl) (hN : X.N[i]? = some x := by rfl) (hv : ∀ ii, Vis (X.env ii).scope x := by intro _; first | exact Or.inl rfl | exact Or.inr (Or.inl rfl) | exact Or.inr (Or.inr rfl))
    (hd : (x == ("__debug__" : Str)) = false := by decide) (hc : (x == ("__classdict__" : Str)) = false := by decide) : DE X W (tVar i) Ga (.Name x pos) (Ga.set i .u) sh (fVar i) := ⟨fun ii => pe_var hN (hv ii) hd hc, sem_mv hg hf⟩

/-! ### a call whose one argument is a new list of its own -/
def fOwn1 (m : Fn) (fa : Fx) : Fx := fun rho => match fa rho with
  | .ok (d, rho1) => match m [d] with
    | .ok (z, _) => .ok (z, rho1)
    | .error e => .error e
  | .error e => .error e
theorem Sem.own1 {rs : Sh} {Mp : List Sh} {m : Fn} (h : Sem B W ta Ga Ga1 (.l .s) fa) : Sem B W (tCallS (spOf B [.l .s] Mp rs m) (WE W) (tCons ta tNil)) Ga Ga1 rs (fOwn1 m fa) := fun G H fps sg rho Q av p => by
  refine h G H fps sg rho _ av ?_
  unfold fOwn1 at p
  cases e : fa rho with
  | error x =>
    rw [e] at p
    exact p.err
  | ok z =>
    obtain ⟨d, rho1⟩ := z
    rw [e] at p
    intro G1 H1 fps1 fp v r
    have vl : Own B G1 H1 (.l .s) fp (some v) d := r.vl
    have nd := List.nodup_append.mp r.nd
    refine ⟨rfl, G1, [fp], [d], ⟨by simp only [OwnL]; exact ⟨fp, [], some v, [], d, [], rfl, rfl, rfl, vl, rfl, rfl, rfl⟩, by simpa using nd.2.1, fun x hx => r.gn x (by simpa using hx), r.av.ex⟩, ?_⟩
    have p1 := p.later r.st
    simp only at p1
    cases e2 : m [d] with
    | error x =>
      rw [e2] at p1
      cases x with
      | exc c => exact fun Cl G2 H2 A2 mc st2 ex => p1 Cl G2 H2 A2 mc (st2.wide fun x hx => List.mem_append_right _ (by simpa using hx)) ex
      | stuck => exact p1
      | fuel => exact p1
    | ok z =>
      obtain ⟨z, out⟩ := z
      rw [e2] at p1
      intro G2 H2 fpo fp2 v2 st2 ao ov nd2 gn2
      have nin : ∀ x ∈ fps1.flatten, x ∉ [fp].flatten := fun x hx hz => nd.2.2 x hx x (by simpa using hz) rfl
      have av2 : At B G2 H2 Ga1 fps1 sg rho1 := r.av.same st2 nin ao.ex
      have dj : ∀ x ∈ fps1.flatten, x ∉ fp2 := fun x hx hz => by
        rcases st2.foot x (List.mem_append_right _ hz) with q | q
        · exact nin x hx q
        · exact OwnL.dom r.av.own x hx q
      refine p1 G2 H2 fps1 fp2 v2 ⟨⟨st2.g, fun x h1 h2 => (st2.gn x h1 h2).imp (fun q => List.mem_append_right _ (by simpa using q)) id, fun x hx => st2.keep x (fun q => hx (List.mem_append_right _ (by simpa using q))), st2.dom, fun x hx => ?_⟩, av2, .own ov, List.nodup_append.mpr ⟨nd.1, (List.nodup_append.mp nd2).2.1, fun x hx y hy e => dj x hx (e ▸ hy)⟩, gn2⟩
      rcases List.mem_append.mp hx with q | q
      · exact .inl (List.mem_append_left _ q)
      · rcases st2.foot x (List.mem_append_right _ q) with y | y
        · exact .inl (List.mem_append_right _ (by simpa using y))
        · exact .inr y
theorem DE.own1 {k j : Nat} {x : Str} {ps : List Str} {Mp : List Sh} {rs : Sh} {m : Fn} (d : Def X.prog X.w X.K X.mg X.base k x ps [.l .s] Mp rs m) (hr : RoomG j X.A) (tk : ∀ ii, Takes (X.at ii) W) (hk : decide (k ≤ j) = true) (ha : DE X W ta Ga e Ga1 (.l .s) fa) (hg : ∀ ii, Gl (X.at ii) x := by intro _; rfl)
    (hdb : (x == ("__debug__" : Str)) = false := by decide) (he : ∀ ii, starEach (e :: []) (X.env ii) = (false, eval e (X.env ii)) :: starEach [] (X.env ii) := by intro _; rfl) (hpl : ∀ ii, (backTo pos (starEach [] (X.env ii))).any (·.1) = false := by intro _; rfl) :
    DE X W (tCallS (spOf (bd X) [.l .s] Mp rs m) (WE W) (tCons ta tNil)) Ga (.Call (.Name x p) [e] [] pos) Ga1 rs (fOwn1 m fa) := by
  obtain ⟨f, fd, h1, h2, h3, h4⟩ := d.ex
  exact ⟨fun ii => pe_callG h4 (hr.mono (of_decide_eq_true hk)) (hg ii) h1 h2 h3 (fun sg => passAt (tk ii) sg) (pa_cons (ha.pe ii) pa_nil (he ii)) hdb (he ii) (hpl ii), Sem.own1 ha.sm⟩

/-! ### [..] * k -/
def fRepL (fa fb : Fx) : Fx := fun rho => match fa rho with
  | .ok (d, rho1) => match fb rho1 with
    | .ok (e, rho2) => match d, e with
      | .lst ds, .int k => if -9223372036854775808 ≤ k ∧ k < 9223372036854775808 ∧ ds.length * k.toNat ≤ 16777216 then .ok (.lst (List.replicate k.toNat ds).flatten, rho2) else stuck
      | _, _ => stuck
    | .error e => .error e
  | .error e => .error e
theorem Sem.repL (ha : Sem B W ta Ga Ga1 (.l .s) fa) (hb : Sem B W tb Ga1 Ga2 .s fb) : Sem B W (tOp rRep ta tb) Ga Ga2 (.l .s) (fRepL fa fb) := fun G H fps sg rho Q av p => by
  refine ha G H fps sg rho _ av ?_
  unfold fRepL at p
  cases e : fa rho with
  | error x =>
    rw [e] at p
    exact p.err
  | ok z =>
    obtain ⟨d, rho1⟩ := z
    rw [e] at p
    intro G1 H1 fps1 fp v r
    obtain ⟨q, vs, ds, ev, rfl, hq, rfl, rs⟩ := own_l (show Own B G1 H1 (.l .s) fp (some v) d from r.vl)
    cases ev
    have nd := List.nodup_append.mp r.nd
    have p1 := p.later r.st
    simp only at p1
    have st0 : Step G1 H1 (fps1.flatten ++ [q]) G1 H1 fps1.flatten := (Step.refl _ _ _).sub fun x hx => List.mem_append_left _ hx
    refine hb G1 H1 fps1 sg rho1 _ r.av ?_
    cases e2 : fb rho1 with
    | error x =>
      rw [e2] at p1
      exact (p1.later st0).err
    | ok z =>
      obtain ⟨k, rho2⟩ := z
      rw [e2] at p1
      intro G2 H2 fps2 fp2 w r2
      obtain ⟨rfl, rk⟩ := r2.vl.of_s
      have st2 := r2.st
      rw [List.append_nil] at st2
      have nq : q ∉ fps1.flatten := fun z => nd.2.2 q z q (by simp) rfl
      have hq2 : H2 q = some (.lst vs) := st2.keep q nq _ hq
      cases k with
      | int k =>
        cases rk
        simp only at p1
        split at p1
        · rename_i hz
          refine ⟨q, k, vs, rfl, rfl, hq2, by have := hz.1; omega, by have := hz.2.1; omega, small_line (by rw [rs.length]; exact hz.2.2), fun l hl => ?_⟩
          have res := Res.newOwn (o := .lst (List.replicate k.toNat vs).flatten) r2.av hl (own_list upd_same ((rs.mono st2.g).rep k.toNat))
          have stt := st0.trans (st2.trans res.st)
          exact p1 _ _ _ _ _ ⟨stt, res.av, res.vl, res.nd, res.gn⟩
        · exact p1.elim
      | _ => exact p1.elim
theorem DE.repL (ha : DE X W ta Ga a Ga1 (.l .s) fa) (hb : DE X W tb Ga1 b Ga2 .s fb) : DE X W (tOp rRep ta tb) Ga (.BinOp a .Mult b pos) Ga2 (.l .s) (fRepL fa fb) := ⟨fun ii => pe_op op_rep (ha.pe ii) (hb.pe ii), Sem.repL ha.sm hb.sm⟩

/-! ### zip, enumerate -/
def fZip (fs : Fs) : Fs := fun rho => match fs rho with
  | .ok (ds, rho1) => match ds with
    | [.lst x, .lst y] => .ok (List.zipWith (fun a b => D.tup [a, b]) x y, rho1)
    | [.tup x, .tup y] => .ok (List.zipWith (fun a b => D.tup [a, b]) x y, rho1)
    | _ => stuck
  | .error e => .error e
theorem new_pair {T : Addr} {x y : V} {d e : D} (hT : H T = none) (hx : Ex G H) (r : Rep B G x d) (r2 : Rep B G y e) : (∀ A, Step G H A (upd G T (.tup [x, y])) (upd H T (.tup [x, y])) A) ∧ Ex (upd G T (.tup [x, y])) (upd H T (.tup [x, y])) ∧ RepZ B (upd G T (.tup [x, y])) false (.ref T) (.tup [d, e]) :=
  ⟨fun A => Step.new hT hx, hx.upd, .inr ⟨T, [x, y], [d, e], rfl, rfl, SqT.of upd_same, .cons (r.mono (Ex.new (hx.free hT))) (.cons (r2.mono (Ex.new (hx.free hT))) .nil)⟩⟩
theorem walks_zip {l m : Addr} {vs ws : List V} {ds es : List D} (h : SL B.K G l vs) (h2 : SL B.K G m ws) (r : Reps B G vs ds) (r2 : Reps B G ws es) : Walks B false G (Itz B.K l m) (List.zipWith (fun a b => D.tup [a, b]) ds es) where
  go := fun i H hi x => by
    rw [List.length_zipWith] at hi
    obtain ⟨v, hv, _⟩ := r.get (List.getElem?_eq_getElem (show i < ds.length by omega))
    obtain ⟨w, hw, _⟩ := r2.get (List.getElem?_eq_getElem (show i < es.length by omega))
    exact ⟨vs, ws, v, w, (x.sl h).sq, (x.sl h2).sq, hv, hw⟩
  stop := fun H x => ⟨vs, ws, (x.sl h).sq, (x.sl h2).sq, by rw [List.length_zipWith, r.length, r2.length]; omega⟩
  yld := fun i G2 H x H' y x1 x2 hi => by
    obtain ⟨T, v, w, rfl, hT, rfl, k1, k2⟩ := y
    have hv := k1 vs ((x1.trans x2).sl h).sq
    have hw := k2 ws ((x1.trans x2).sl h2).sq
    obtain ⟨d, e1, q1⟩ := r.get' hv
    obtain ⟨e, e2, q2⟩ := r2.get' hw
    obtain ⟨s1, s2, s3⟩ := new_pair hT x2 (q1.mono x1) (q2.mono x1)
    exact ⟨.tup [d, e], _, by rw [List.getElem?_zipWith, e1, e2], s1, s2, s3⟩
theorem walks_zipT {l m : Addr} {vs ws : List V} {ds es : List D} (h : SqT B.K G l vs) (h2 : SqT B.K G m ws) (r : Reps B G vs ds) (r2 : Reps B G ws es) : Walks B false G (RZ.ItzT B.K l m) (List.zipWith (fun a b => D.tup [a, b]) ds es) where
  go := fun i H hi x => by
    rw [List.length_zipWith] at hi
    obtain ⟨v, hv, _⟩ := r.get (List.getElem?_eq_getElem (show i < ds.length by omega))
    obtain ⟨w, hw, _⟩ := r2.get (List.getElem?_eq_getElem (show i < es.length by omega))
    exact ⟨vs, ws, v, w, x.sqt h, x.sqt h2, hv, hw⟩
  stop := fun H x => ⟨vs, ws, x.sqt h, x.sqt h2, by rw [List.length_zipWith, r.length, r2.length]; omega⟩
  yld := fun i G2 H x H' y x1 x2 hi => by
    obtain ⟨T, v, w, rfl, hT, rfl, k1, k2⟩ := y
    have hv := k1 vs ((x1.trans x2).sqt h)
    have hw := k2 ws ((x1.trans x2).sqt h2)
    obtain ⟨d, e1, q1⟩ := r.get' hv
    obtain ⟨e, e2, q2⟩ := r2.get' hw
    obtain ⟨s1, s2, s3⟩ := new_pair hT x2 (q1.mono x1) (q2.mono x1)
    exact ⟨.tup [d, e], _, by rw [List.getElem?_zipWith, e1, e2], s1, s2, s3⟩
variable {tr : TA} {shs : List Sh} {es : List Expr}
theorem SemI.zip (h : SemA B W tr Ga Ga1 [.s, .s] fs) : SemI B false W (RZ.iZipA B.K tr) Ga Ga1 (fZip fs) := fun G H fps sg rho Q av p => by
  refine h G H fps sg rho _ av ?_
  unfold fZip at p
  cases e : fs rho with
  | error x =>
    rw [e] at p
    cases x with
    | exc c => exact p
    | stuck => exact p
    | fuel => exact p
  | ok z =>
    obtain ⟨ds, rho1⟩ := z
    rw [e] at p
    intro G1 H1 fps1 vs st a1 vl
    simp only at p
    split at p
    · rename_i x y
      cases vl with
      | cons v1 vl =>
        cases vl with
        | cons v2 vl =>
          cases vl
          have r1 := v1.of_s.2
          have r2 := v2.of_s.2
          cases r1 with
          | lst h1 q1 =>
            cases r2 with
            | lst h2 q2 => exact ⟨_, _, _, _, rfl, .inl ⟨(a1.ex.sl h1).sq, (a1.ex.sl h2).sq, p G1 H1 fps1 _ st a1 (walks_zip h1 h2 q1 q2)⟩⟩
    · rename_i x y
      cases vl with
      | cons v1 vl =>
        cases vl with
        | cons v2 vl =>
          cases vl
          have r1 := v1.of_s.2
          have r2 := v2.of_s.2
          cases r1 with
          | tup h1 q1 =>
            cases r2 with
            | tup h2 q2 => exact ⟨_, _, _, _, rfl, .inr ⟨a1.ex.sqt h1.sqt, a1.ex.sqt h2.sqt, p G1 H1 fps1 _ st a1 (walks_zipT h1.sqt h2.sqt q1 q2)⟩⟩
    · exact p.elim
theorem DI.zip {elts : List Expr} {kk : Nat} {tpos : Pos} (hm : X.mg "zip" = none) (h : DA X W tr Ga [a, b] Ga1 [.s, .s] fs) (hg : ∀ ii, Gl (X.at ii) "zip" := by intro _; rfl) (hs : ∀ ii, starEach [a, b] (X.env ii) = (false, eval a (X.env ii)) :: starEach [b] (X.env ii) := by intro _; rfl)
    (hpl : ∀ ii, (backTo pos (starEach [b] (X.env ii))).any (·.1) = false := by intro _; rfl) : DI X false W (RZ.iZipA X.K tr) Ga (.Tuple elts kk tpos) (.Call (.Name "zip" p) [a, b] [] pos) Ga1 (fZip fs) := ⟨fun ii => RZ.pi_zipA (hg ii) hm (h.pe ii) (hs ii) (hpl ii), SemI.zip h.sm⟩
def enumD : Nat → List D → List D
  | _, [] => []
  | n, d :: ds => .tup [.int (n : Nat), d] :: enumD (n + 1) ds
theorem enumD_len : ∀ (n : Nat) (ds : List D), (enumD n ds).length = ds.length
  | _, [] => rfl
  | n, d :: ds => by simp [enumD, enumD_len]
theorem enumD_at : ∀ (n : Nat) (ds : List D) (i : Nat), (enumD n ds)[i]? = (ds[i]?).map fun d => D.tup [.int ((n + i : Nat) : Int), d]
  | _, [], i => by simp [enumD]
  | n, d :: ds, 0 => by simp [enumD]
  | n, d :: ds, i + 1 => by
    simp only [enumD, List.getElem?_cons_succ]
    rw [enumD_at, show n + 1 + i = n + (i + 1) by omega]
def fEnum (fa : Fx) : Fs := fun rho => match fa rho with
  | .ok (d, rho1) => match d with
    | .lst x => .ok (enumD 0 x, rho1)
    | _ => stuck
  | .error e => .error e
theorem walks_enum {l : Addr} {vs : List V} {ds : List D} (h : SL B.K G l vs) (r : Reps B G vs ds) : Walks B false G (Ite B.K l) (enumD 0 ds) where
  go := fun i H hi x => by
    rw [enumD_len] at hi
    obtain ⟨v, hv, _⟩ := r.get (List.getElem?_eq_getElem hi)
    exact ⟨vs, v, (x.sl h).sq, hv⟩
  stop := fun H x => ⟨vs, (x.sl h).sq, by rw [enumD_len, r.length]; omega⟩
  yld := fun i G2 H x H' y x1 x2 hi => by
    obtain ⟨T, v, rfl, hT, rfl, k1⟩ := y
    have hv := k1 vs ((x1.trans x2).sl h).sq
    obtain ⟨d, e1, q1⟩ := r.get' hv
    obtain ⟨s1, s2, s3⟩ := new_pair hT x2 (Rep.int (B := B) (G := G2) ((i : Nat) : Int)) (q1.mono x1)
    exact ⟨.tup [.int (i : Nat), d], _, by rw [enumD_at, e1]; simp, s1, s2, s3⟩
theorem SemI.enum (h : Sem B W ta Ga Ga1 .s fa) : SemI B false W (iEnum B.K (tCons ta tNil)) Ga Ga1 (fEnum fa) := fun G H fps sg rho Q av p => by
  refine h G H fps sg rho _ av ?_
  unfold fEnum at p
  cases e : fa rho with
  | error x =>
    rw [e] at p
    cases x with
    | exc c => exact p
    | stuck => exact p
    | fuel => exact p
  | ok z =>
    obtain ⟨d, rho1⟩ := z
    rw [e] at p
    intro G1 H1 fps1 fp v r
    obtain ⟨rfl, rv⟩ := r.vl.of_s
    have st := r.st
    rw [List.append_nil] at st
    simp only at p
    cases d with
    | lst ds =>
      cases rv with
      | lst hl rs => exact ⟨_, _, rfl, (r.av.ex.sl hl).sq, p G1 H1 fps1 _ st r.av (walks_enum hl rs)⟩
    | _ => exact p.elim
theorem DI.enum {elts : List Expr} {kk : Nat} {tpos : Pos} (hm : X.mg "enumerate" = none) (h : DE X W ta Ga a Ga1 .s fa) (hg : ∀ ii, Gl (X.at ii) "enumerate" := by intro _; rfl) (hs : ∀ ii, starEach [a] (X.env ii) = [(false, eval a (X.env ii))] := by intro _; rfl) (hs0 : ∀ ii, starEach (a :: []) (X.env ii) = (false, eval a (X.env ii)) :: starEach [] (X.env ii) := by intro _; rfl) :
    DI X false W (iEnum X.K (tCons ta tNil)) Ga (.Tuple elts kk tpos) (.Call (.Name "enumerate" p) [a] [] pos) Ga1 (fEnum fa) := ⟨fun ii => pi_enum (hg ii) hm (pa_cons (h.pe ii) pa_nil (hs0 ii)) (hs ii), SemI.enum h.sm⟩
end
/-! ### a def that calls itself: the first step -/
def mStuck : Fn := fun _ => stuck
theorem def_stuck {P : Program} {w : World} {K : PySem.W.Frag} {mg : Str → Option Value} {base : Heap} {k : Nat} {x : Str} {st : Stmt} {f : Addr} {fd : FuncData} {ps : List Str} {Gp Mp : List Sh} {rs : Sh}
    (F : Fun K x x st f fd) (hm : mg x = some (.ref f)) (hb : Binds K fd ps []) : Def P w K mg base k x ps Gp Mp rs mStuck :=
  ⟨f, fd, hm, F.kp, hb, ⟨fun vs H Q E h => by
    obtain ⟨_, _, _, _, _, p⟩ := h
    exact p.elim, fun A outer s H args us vs Q E _ _ _ _ h => by
    obtain ⟨_, _, _, _, _, p⟩ := h
    exact p.elim⟩⟩
/-- def_ok, the shapes at the start written out -/
theorem def_ok2 {P : Program} {w : World} {K : PySem.W.Frag} {mg : Str → Option Value} {base : Heap} {k n : Nat} {x : Str} {st : Stmt} {f : Addr} {fd : FuncData} {N ps : List Str} {Gp Mp : List Sh} {rs : Sh} {fb : Fst} {Pn : List Nat} {M : List Sh}
    (F : Fun K x x st f fd) (S : FnScope N ps (defScope st)) (hm : mg x = some (.ref f)) (hb : Binds K fd ps []) (G0 : List Sh)
    (body : ∀ (cdv : Value) (A : Around) (outer : List Env) (s : Shared) (H : Hp) (E : XK), RoomG k (Ctx P w K mg base N x st f cdv A outer s H E).A → Takes (Ctx P w K mg base N x st f cdv A outer s H E) (WEx E) →
      PassesOwn (model P w) (Ctx P w K mg base N x st f cdv A outer s H E).A (Ctx P w K mg base N x st f cdv A outer s H E).env (Ctx P w K mg base N x st f cdv A outer s H E).xe →
      ∃ ts, DB (Cf.of (Ctx P w K mg base N x st f cdv A outer s H E)) (WEx E) ⟨Pn, M, rs, [], []⟩ ts G0 (defBody st) M fb)
    (hG : Gp ++ List.replicate n .u = G0 := by rfl)
    (hn : N.length = Gp.length + n := by rfl) (hps : ps.length = Gp.length := by rfl) (hM : M.take Gp.length = Mp := by rfl) (hMl : Mp.length = Gp.length := by rfl) (hP : (List.range Gp.length).all (fun i => Pn.contains i || (match Mp[i]? with | some .u => true | _ => false)) = true := by rfl) :
    Def P w K mg base (k + 1) x ps Gp Mp rs (runB rs fb n) := by
  subst hG
  exact def_ok F S hm hb body hn hps hM hMl hP
/-! ### a walk over a list or a tuple -/
def iSeqA (K : PySem.W.Frag) (tl : TE) : TI := fun sg H R => tl sg H fun x H1 => ∃ a, x = .ref a ∧ (((∃ xs, SqL K H1 a xs) ∧ R (Itl K a) H1) ∨ ((∃ xs, SqT K H1 a xs) ∧ R (Itt K a) H1))
theorem pi_seqA {X : Cx} {tg l : Expr} {tl : TE} (hl : PE X l tl) : PI X tg l (iSeqA X.K tl) := by
  refine ⟨fun pins s sg H R I h => ?_⟩
  refine thn (hl.run pins s sg H _ I h) fun v s1 ⟨x, H1, I1, r1, q1⟩ => ?_
  obtain ⟨a, e, q2⟩ := q1
  subst e
  cases r1
  rcases q2 with ⟨⟨xs, hq⟩, q⟩ | ⟨⟨xs, hq⟩, q⟩
  · obtain ⟨its, rv, p, hz⟩ := I1.list hq
    refine wpAny_pyIter_list p.isList ?_
    refine ⟨s1.heap.objs.size, [s1.heap.objs.size], _, _, H1, rfl, I1.kept (t' := s1.toks) fun b o e => Heap.get?_push_of_some _ e, turn_list a _, ⟨_, Heap.get?_push_size _ rfl, rfl, rfl⟩, fun b hb => ?_, q⟩
    have e : b = s1.heap.objs.size := by simpa using hb
    subst e
    exact I1.fpOk (Nat.le_refl _) (I1.hok.fresh (Nat.le_refl _))
  · obtain ⟨its, rv, p, hz⟩ := I1.tuple hq
    refine wpAny_pyIter_tuple (show s1.heap.IsTuple a its.toArray from p) ?_
    refine ⟨s1.heap.objs.size, [s1.heap.objs.size], _, _, H1, rfl, I1.kept (t' := s1.toks) fun b o e => Heap.get?_push_of_some _ e, turn_tuple a _, ⟨_, Heap.get?_push_size _ rfl, rfl, rfl⟩, fun b hb => ?_, q⟩
    have e : b = s1.heap.objs.size := by simpa using hb
    subst e
    exact I1.fpOk (Nat.le_refl _) (I1.hok.fresh (Nat.le_refl _))
theorem SemI.any {W : WX} {ta : TE} {Ga Ga1 : List Sh} {fa : Fx} (h : Sem B W ta Ga Ga1 .s fa) : SemI B true W (iSeqA B.K ta) Ga Ga1 (fSeq fa) := fun G H fps sg rho Q av p => by
  refine h G H fps sg rho _ av ?_
  unfold fSeq at p
  cases e : fa rho with
  | error x =>
    rw [e] at p
    cases x with
    | exc c => exact p
    | stuck => exact p
    | fuel => exact p
  | ok z =>
    obtain ⟨d, rho1⟩ := z
    rw [e] at p
    intro G1 H1 fps1 fp v r
    obtain ⟨rfl, rv⟩ := r.vl.of_s
    have st := r.st
    rw [List.append_nil] at st
    simp only at p
    cases d with
    | lst ds =>
      cases rv with
      | lst hl rs => exact ⟨_, rfl, .inl ⟨⟨_, (r.av.ex.sl hl).sq⟩, p G1 H1 fps1 _ st r.av (walks_list hl rs)⟩⟩
    | tup ds =>
      cases rv with
      | tup hl rs => exact ⟨_, rfl, .inr ⟨⟨_, r.av.ex.sqt hl.sqt⟩, p G1 H1 fps1 _ st r.av (walks_tup hl.sqt rs)⟩⟩
    | _ => exact p.elim
theorem DI.any {I : Type} {X : Cf I} {W : WX} {ta : TE} {Ga Ga1 : List Sh} {fa : Fx} {e tg : Expr} (h : DE X W ta Ga e Ga1 .s fa) : DI X true W (iSeqA X.K ta) Ga tg e Ga1 (fSeq fa) := ⟨fun ii => pi_seqA (h.pe ii), SemI.any h.sm⟩
end EB
namespace EB
open PySem PySem.W PySem.Calls PyProof.Rows L2
/-- the law's def: its promise for this function object -/
theorem fn_ok2 {P : Program} {w : World} {K : PySem.W.Frag} {mg : Str → Option Value} {base : Heap} {k n : Nat} {x : Str} {st : Stmt} {f : Addr} {fd : FuncData} {N ps : List Str} {Gp Mp : List Sh} {rs : Sh} {fb : Fst} {Pn : List Nat} {M : List Sh}
    (F : Fun K x x st f fd) (S : FnScope N ps (defScope st)) (hm : mg x = some (.ref f)) (hb : Binds K fd ps []) (G0 : List Sh)
    (body : ∀ (cdv : Value) (A : Around) (outer : List Env) (s : Shared) (H : Hp) (E : XK), RoomG k (Ctx P w K mg base N x st f cdv A outer s H E).A → Takes (Ctx P w K mg base N x st f cdv A outer s H E) (WEx E) →
      PassesOwn (model P w) (Ctx P w K mg base N x st f cdv A outer s H E).A (Ctx P w K mg base N x st f cdv A outer s H E).env (Ctx P w K mg base N x st f cdv A outer s H E).xe →
      ∃ ts, DB (Cf.of (Ctx P w K mg base N x st f cdv A outer s H E)) (WEx E) ⟨Pn, M, rs, [], []⟩ ts G0 (defBody st) M fb)
    (hG : Gp ++ List.replicate n .u = G0 := by rfl)
    (hn : N.length = Gp.length + n := by rfl) (hps : ps.length = Gp.length := by rfl) (hM : M.take Gp.length = Mp := by rfl) (hMl : Mp.length = Gp.length := by rfl) (hP : (List.range Gp.length).all (fun i => Pn.contains i || (match Mp[i]? with | some .u => true | _ => false)) = true := by rfl) :
    FnG P w K mg base (L2.CX P w) (k + 1) f fd ps (spOf ⟨K, mg⟩ Gp Mp rs (runB rs fb n)) := by
  subst hG
  refine okG F S (fun vs H Q E h => h.1.trans hps.symm) fun cdv A outer s H vs Q E hr h => ?_
  obtain ⟨ts, d⟩ := body cdv A outer s H E hr (takes_of rfl rfl rfl rfl) (passes_of rfl)
  refine ⟨ts, d.pe (), sp_body (W := WEx E) d.sm (fun _ _ _ h => h) hn hM hMl (fun i hi hl => ?_) h⟩
  have z := List.all_eq_true.mp hP i (List.mem_range.mpr hl)
  rw [Bool.or_eq_true] at z
  rcases z with z | z
  · exact List.contains_iff_mem.mp z
  · split at z
    · rename_i e
      exact absurd e hi
    · cases z
/-- THE END: the mirror of law answers True at every script -/
def LawOk (m : Fn) : Prop := ∀ ns : List Int, ns.length ≤ 63 → (∀ z ∈ ns, Builtin.Int.intBits z ≤ 1048576) → ∃ rho, m [.lst (ns.map D.int)] = .ok (.bl true, rho)
theorem reps_ints {B : Bd} {G : Hp} : ∀ ns : List Int, Reps B G (ns.map V.int) (ns.map D.int)
  | [] => .nil
  | n :: ns => .cons (.int n) (reps_ints ns)
theorem walk_EB {l : PySem.W.OpenLaw} {k : Nat} {q : Program} {loose : List Str} {XP : (Str → Option Value) → Heap → Prop} {YP : World → Heap → Prop} {d : DefRec} {K : Params → PySem.W.Frag} {m : Fn}
    (hn : l.most = some 63) (hdf : d.params.defaults = []) (hr : Room k callerA)
    (hY : ∀ (w : World) (h : Heap), YP w h → (K w.params).In h)
    (F : ∀ (w : World) (mg : Str → Option Value) (fa : Addr) (h : Heap), (K w.params).In h → h.Ns mainGlobals mg → mg d.name = some (.ref fa) →
      ∃ fd : FuncData, (∀ (s : Shared) (u : Value), BindsTo s fd ⟨[u], []⟩ [("script", u)]) ∧
        ∀ base : Heap, (K w.params).In base → base.Ns mainGlobals mg → FnG l.prog w (K w.params) mg base (L2.CX l.prog w) k fa fd ["script"] (spOf ⟨K w.params, mg⟩ [.s] [.u] .s m))
    (hm : LawOk m) : PySem.W.WalkO q loose XP YP l.row.toRowW d [] (fun f vs => PySem.call f vs) := by
  refine Att.attach_callB hn hdf fun w s₀ s₁ mg mb fa o pm cd doc a vs ns G Y ho hd hcd hmg hobj hints hlen hbits hg => ?_
  have KX := hY w _ Y
  obtain ⟨fd, hb, hF⟩ := F w mg fa _ KX G.T.g hmg
  refine law_callG KX G.T.g G.T.b G.T.builtins G.T.nolimit hg hobj hints (Nat.le_trans hlen (by decide)) hr hF hb (fun H hS => ?_) fun H e s' hc => ?_
  · have hS2 : SL (K w.params) H a (ns.map V.int) := by
      rcases hS with h | ⟨o2, its, n, hk, _, _, _, _, _⟩
      · exact .inl h
      · have e := KX a o2 hk
        rw [hobj] at e
        cases e
        exact .inr ⟨vs, _, hk, by rw [hints.length]; exact Nat.le_trans hlen (by decide), vals_ints hints⟩
    obtain ⟨rho, em⟩ := hm ns hlen hbits
    refine ⟨rfl, H, [[]], [.lst (ns.map D.int)], ⟨?_, by simp, by simp, Ex.refl H⟩, ?_⟩
    · simp only [OwnL, List.map_cons, List.map_nil]
      exact ⟨[], [], _, [], _, [], rfl, rfl, rfl, by simp only [Own]; exact ⟨trivial, _, rfl, .lst hS2 (reps_ints ns)⟩, rfl, rfl, rfl⟩
    · rw [em]
      intro G1 H1 fps fp v _ _ ow _ _
      simp only [Own] at ow
      obtain ⟨_, w2, e, r⟩ := ow
      cases e
      cases r
      rfl
  · obtain ⟨_, _, _, _, _, _, _, _, _, _, _, _, he⟩ := hc
    exact he
end EB
namespace EB
open PySem L2
variable {B : Bd} {G G' G1 G2 G3 H H' H1 H2 H3 : Hp} {A A1 A2 A3 F : List Addr}
/-! ### in, of a list or a tuple -/
def rInT (K : PySem.W.Frag) (neg : Bool) : R2 := fun x y H Q => ∃ d ds, Dp K H x d ∧ Dp K H y (.tuple ds) ∧ SeqAt.shaped d = true ∧ SeqAt.shaped (.tuple ds) = true ∧ Q (.bl (neg ^^ ds.any fun z => PyData.eqv z d)) H
section
variable {X : Cx}
theorem room_in_t {d : PyData} {ds : List PyData} {A : Around} (sd : SeqAt.shaped (.tuple ds) = true) (hu : A.units + 65 < cLine) : A.units + 1 + min (PyData.depthAll ds) d.depth < cLine := by
  have h1 := SeqAt.depth_of_shaped sd
  simp only [PyData.depth] at h1
  have h2 : min (PyData.depthAll ds) d.depth ≤ PyData.depthAll ds := Nat.min_le_left _ _
  omega
theorem op_inT (hu : X.A.units + 65 < cLine) : OpR X (compareOp .In) (rInT X.K false) := by
  intro pins s sg H x y v u Q I rx ry h
  obtain ⟨d, ds, hd, he, sd, se, q⟩ := h
  obtain ⟨as, r1⟩ := Dp.reads I d x v hd rx
  obtain ⟨bs, r2⟩ := Dp.reads I (.tuple ds) y u he ry
  exact SeqAt.in_tuple_reads r2 r1 (SeqAt.canLay_of_shaped se) (SeqAt.canLay_of_shaped sd) (room_in_t se hu) ⟨.bl _, H, I, rfl, by simpa using q⟩
theorem op_notInT (hu : X.A.units + 65 < cLine) : OpR X (compareOp .NotIn) (rInT X.K true) := by
  intro pins s sg H x y v u Q I rx ry h
  obtain ⟨d, ds, hd, he, sd, se, q⟩ := h
  obtain ⟨as, r1⟩ := Dp.reads I d x v hd rx
  obtain ⟨bs, r2⟩ := Dp.reads I (.tuple ds) y u he ry
  exact SeqAt.notIn_tuple_reads r2 r1 (SeqAt.canLay_of_shaped se) (SeqAt.canLay_of_shaped sd) (room_in_t se hu) ⟨.bl _, H, I, rfl, by simpa using q⟩
def rInA (K : PySem.W.Frag) : R2 := fun x y H Q => rInD K x y H Q ∨ rInT K false x y H Q
def rNotInA (K : PySem.W.Frag) : R2 := fun x y H Q => rNotInD K x y H Q ∨ rInT K true x y H Q
theorem op_inA (hu : X.A.units + 65 < cLine) : OpR X (compareOp .In) (rInA X.K) := (op_inD hu).or (op_inT hu)
theorem op_notInA (hu : X.A.units + 65 < cLine) : OpR X (compareOp .NotIn) (rNotInA X.K) := (op_notInD hu).or (op_notInT hu)
end
def D.asL : D → D
  | .tup ds => .lst ds
  | d => d
def dInA : D → D → R D := fun x y => dIn x y.asL
def dNotInA : D → D → R D := fun x y => dNotIn x y.asL
theorem asL_py {y : D} {ps : List PyData} (h : y.asL.py = some (.list ps)) : y.py = some (.list ps) ∨ y.py = some (.tuple ps) := by
  cases y with
  | tup ds =>
    right
    simp only [D.asL, D.py, Option.map_eq_some_iff] at h ⊢
    obtain ⟨qs, e, h⟩ := h
    cases h
    exact ⟨ps, e, rfl⟩
  | _ => exact .inl h
theorem shaped_t {ps : List PyData} (h : SeqAt.shaped (.list ps) = true) : SeqAt.shaped (.tuple ps) = true := by
  simpa [SeqAt.shaped, PyData.canLay0, PyData.depth] using h
theorem o2_inA : Op2 B (rInA B.K) dInA := fun G H W Ga fps sg rho sa sb d e v w Q a v1 v2 s1 s2 p => by
  unfold dInA dIn at p
  split at p
  · rename_i b hb
    obtain ⟨p1, q1, e1, e2, h1, h2, rfl⟩ := in_parts hb
    obtain ⟨G1, _, x1, r1⟩ := a.view v1 s1
    obtain ⟨G2, _, x2, r2⟩ := a.view v2 s2
    rcases asL_py e2 with e3 | e3
    · exact .inl ⟨p1, q1, r1.dp x1 e1, r2.dp x2 e3, h1, h2, Post.flat a p (.bl _)⟩
    · exact .inr ⟨p1, q1, r1.dp x1 e1, r2.dp x2 e3, h1, shaped_t h2, by simpa using Post.flat a p (.bl _)⟩
  · exact p.elim
theorem o2_notinA : Op2 B (rNotInA B.K) dNotInA := fun G H W Ga fps sg rho sa sb d e v w Q a v1 v2 s1 s2 p => by
  unfold dNotInA dNotIn at p
  split at p
  · rename_i b hb
    obtain ⟨p1, q1, e1, e2, h1, h2, rfl⟩ := in_parts hb
    obtain ⟨G1, _, x1, r1⟩ := a.view v1 s1
    obtain ⟨G2, _, x2, r2⟩ := a.view v2 s2
    rcases asL_py e2 with e3 | e3
    · exact .inl ⟨p1, q1, r1.dp x1 e1, r2.dp x2 e3, h1, h2, Post.flat a p (.bl _)⟩
    · exact .inr ⟨p1, q1, r1.dp x1 e1, r2.dp x2 e3, h1, shaped_t h2, by simpa using Post.flat a p (.bl _)⟩
  · exact p.elim
/-! ### tuple.index -/
def rIndexT (K : PySem.W.Frag) : V → List V → Hp → VK → Prop := fun x xs H Q => ∃ (a : Addr) (y : V) (d : PyData) (ds : List PyData) (j : Nat) (z : PyData), x = V.ref a ∧ xs = [y] ∧ Dp K H (V.ref a) (.tuple ds) ∧ Dp K H y d ∧
  SeqAt.shaped (.tuple ds) = true ∧ SeqAt.shaped d = true ∧ ds[j]? = some z ∧ PyData.eqv z d = true ∧ (∀ (m : Nat) (z' : PyData), m < j → ds[m]? = some z' → PyData.eqv z' d = false) ∧ Q (.int (j : Nat)) H
theorem mt_indexT {X : Cx} (hu : X.A.units + 65 < cLine) : MtR X "tuple.index" (rIndexT X.K) := by
  intro pins s sg H x xs v us Q I rx rxs h
  obtain ⟨a, y, d, ds, j, z, rfl, rfl, hl, hy, sl, sd, hz, hzj, hno, q⟩ := h
  cases rx
  cases rxs with
  | cons ry rt =>
    rename_i uy ut
    cases rt
    obtain ⟨bs, r1⟩ := Dp.reads I d y uy hy ry
    have hxs : PyData.canLayAll0 ds = true := SeqAt.canLay_of_shaped sl
    have hroom : X.A.units + 1 + min (PyData.depthAll ds) d.depth < cLine := room_in_t sl hu
    cases hl with
    | tup hs ha =>
      obtain ⟨its, rv, ⟨⟨cls, dd, data, sls⟩, ho, hc, n, hdt⟩, hlen⟩ := I.tuple hs
      simp only at hc hdt
      subst hc hdt
      obtain ⟨as, h4⟩ := Dp.readsAll I ds _ its ha rv
      have hn : its.length = ds.length := SeqAt.ReadsAll.length ds its as h4
      have hmap : its.map (SeqAt.readOf s.heap) = ds := SeqAt.readsAll_map ds its as hxs h4
      obtain ⟨hjd, _⟩ := List.getElem?_eq_some_iff.mp hz
      have hjl : j < its.length := by omega
      have hj : j < its.toArray.size := by simpa using hjl
      have at_ : ∀ (m : Nat) (hm : m < its.toArray.size) (z' : PyData), ds[m]? = some z' → SeqAt.readOf s.heap its.toArray[m] = z' := by
        intro m hm z' hz'
        have hml : m < its.length := by simpa using hm
        rw [← hmap, List.getElem?_map, List.getElem?_eq_getElem hml] at hz'
        have e1 : SeqAt.readOf s.heap its[m] = z' := Option.some.inj (show some (SeqAt.readOf s.heap its[m]) = some z' from hz')
        simpa using e1
      refine call_meets PySem.F.slot_tuple_index ⟨_, ho, rfl⟩ PySem.F.entry_tuple_index (PySem.F.args_tuple_index_2 _ _)
        (TI.tuple_indexAt a its.toArray n dd sls uy (fun u => PyData.eqv (SeqAt.readOf s.heap u) d) j hj ?_ ?_) ⟨ho, SeqAt.items_eqAt (vs := its.toArray) (show ReadsAll s.heap its.toArray.toList ds as from h4) r1 hxs (SeqAt.canLay_of_shaped sd) hroom, ?_⟩
      · show PyData.eqv (SeqAt.readOf s.heap its.toArray[j]) d = true
        rw [at_ j hj z hz]
        exact hzj
      · intro m hm hmj
        have hmd : m < ds.length := by omega
        have hz' : ds[m]? = some ds[m] := List.getElem?_eq_getElem hmd
        show PyData.eqv (SeqAt.readOf s.heap its.toArray[m]) d = false
        rw [at_ m hm _ hz']
        exact hno m _ hmj hz'
      · exact ⟨.int (j : Nat), H, I.tok _, ⟨_, rfl⟩, q⟩
def tMT (K : PySem.W.Frag) (r : V → List V → Hp → VK → Prop) (to : TE) (t : TA) : TE := fun sg H Q => to sg H fun x H1 => (∃ a xs, x = V.ref a ∧ TQ K H1 a xs) ∧ t sg H1 fun xs H2 => r x xs H2 Q
theorem tq_is {X : Cx} {pins : List (Addr × Obj)} {sg : St} {s : Shared} {a : Addr} {xs : List V} (I : Inv X pins sg H s) (h : TQ X.K H a xs) : s.TypeIs (.ref a) "tuple" ∧ ∀ b, Value.ref a = .ref b → ∃ ob, s.heap.get? b = some ob ∧ ob.dict = none := by
  have z : ∃ o, s.heap.get? a = some o ∧ o.cls = .type "tuple" ∧ o.dict = none := by
    rcases h with ⟨o, h, h1, h2⟩ | ⟨o, its, n, h1, h2, h3, _⟩
    · obtain ⟨e, _⟩ := I.hok a _ h
      exact ⟨o, e, h1, h2⟩
    · exact ⟨o, I.kIn a o h1, h2, h3⟩
  obtain ⟨o, e, h1, h2⟩ := z
  refine ⟨⟨o, e, h1⟩, fun b eb => ?_⟩
  cases eb
  exact ⟨o, e, h2⟩
theorem pe_mt {X : Cx} {o e : Expr} {es : List Expr} {to : TE} {t : TA} {name : Str} {apos cpos : Pos} {id : String} {r : V → List V → Hp → VK → Prop} (pa : PlainAttrs "tuple") (slot : Slot "tuple" name id) (hty : typeOf (.builtin id) = pure (.type "method_descriptor")) (hm : MtR X id r) (ho : PE X o to) (ha : PA X (e :: es) t)
    (hbase : attributeBase o name X.env (eval o X.env) = eval o X.env)
    (hfew : ((backTo cpos (starEach (e :: es) X.env)).all (fun x => !x.1) && (backToKw cpos (keywordEach [] X.env)).all (fun x => x.1.isSome)
      && decide ((e :: es).length + ([] : List Keyword).length + (if ([] : List Keyword).isEmpty then 0 else 1) < 30)) = true)
    (hline : (apos.endLine == cpos.line) = true) (hs : starEach (e :: es) X.env = (false, eval e X.env) :: starEach es X.env) (hplain : (backTo cpos (starEach es X.env)).any (·.1) = false) :
    PE X (.Call (.Attribute o name apos) (e :: es) [] cpos) (tMT X.K r to t) := by
  refine ⟨fun pins s sg H Q I h => ?_⟩
  refine wpAny_Call_method_late hbase hfew hline rfl (thn (ho.run pins s sg H _ I h) fun v s1 ⟨x, H1, I1, r1, ⟨a, xs, ex, hq⟩, q1⟩ => ?_)
  subst ex
  cases r1
  obtain ⟨h1, h2⟩ := tq_is I1 hq
  refine ⟨"tuple", id, pa, slot, hty, h1, h2, ?_⟩
  have hA := ha.run cpos pins s1 sg H1 _ I1 q1
  rw [hs] at hA ⊢
  refine Calls.callWith_builtin (by show (false || (backTo cpos (starEach es X.env)).any (·.1)) = false; rw [hplain] <;> rfl) (Calls.evalArgs_plain ?_)
  exact thn hA fun us s2 ⟨vs, H2, I2, r2, q2⟩ => hm pins s2 sg H2 (.ref a) vs (.ref a) us Q I2 rfl r2 q2
def D.isT : D → Bool
  | .tup _ => true
  | _ => false
def dIdxT : D → D → R D := fun d x => dIdx d.asL x
def fIdxT (fa fb : Fx) : Fx := fUn fa fun d rho => if d.isT then fUn fb (fun x rho => lift (dIdxT d x) rho) rho else stuck
section
variable {I : Type} {X : Cf I} {W : WX} {Ga Ga1 Ga2 : List Sh} {fa fb : Fx} {a b : Expr} {ta tb : TE} {p2 p3 : Pos}
theorem Sem.idxT (ha : Sem B W ta Ga Ga1 .s fa) (hb : Sem B W tb Ga1 Ga2 .s fb) : Sem B W (tMT B.K (rIndexT B.K) ta (tCons tb tNil)) Ga Ga2 .s (fIdxT fa fb) := fun G H fps sg rho Q av h =>
  ha G H fps sg rho _ av (h.un rfl fun G1 H1 fps1 d rho1 v a1 v1 st h1 => by
    split at h1
    · rename_i hL
      have r1 := v1.of_s.2
      cases d with
      | tup ds =>
        refine ⟨?_, hb G1 H1 fps1 sg rho1 _ a1 (Post.un rfl h1 fun G2 H2 fps2 x rho2 w a2 w2 st2 h2 => ?_)⟩
        · cases r1 with
          | tup h q => exact ⟨_, _, rfl, a1.ex.tq h⟩
        · have r3 := r1.mono st2.g
          have r2 := w2.of_s.2
          unfold dIdxT D.asL dIdx at h2
          simp only at h2
          split at h2
          · rename_i ps p e1 e2
            split at h2
            · rename_i hs
              split at h2
              · rename_i j hj
                obtain ⟨z, k1, k2, k3⟩ := pyIdx_spec hj
                have dl := r3.dp a2.ex (p := .tuple ps) (by simp [D.py, e1])
                cases r3 with
                | tup h q => exact ⟨_, w, p, ps, j, z, rfl, rfl, dl, r2.dp a2.ex e2, shaped_t hs.1, hs.2, k1, k2, k3, Post.flat a2 h2 (.int _)⟩
              · exact h2.elim
            · exact h2.elim
          · exact h2.elim
      | _ => cases hL
    · exact h1.elim)
theorem DE.idxT (hu : X.A.units + 65 < cLine) (ha : DE X W ta Ga a Ga1 .s fa) (hb : DE X W tb Ga1 b Ga2 .s fb)
    (hbase : ∀ ii, attributeBase a "index" (X.env ii) (eval a (X.env ii)) = eval a (X.env ii) := by intro _; rfl)
    (hfew : ∀ ii, ((backTo p2 (starEach (b :: []) (X.env ii))).all (fun x => !x.1) && (backToKw p2 (keywordEach [] (X.env ii))).all (fun x => x.1.isSome)
      && decide ((b :: []).length + ([] : List Keyword).length + (if ([] : List Keyword).isEmpty then 0 else 1) < 30)) = true := by intro _; rfl)
    (hline : (p3.endLine == p2.line) = true := by rfl) (hs : ∀ ii, starEach (b :: []) (X.env ii) = (false, eval b (X.env ii)) :: starEach [] (X.env ii) := by intro _; rfl) (hplain : ∀ ii, (backTo p2 (starEach [] (X.env ii))).any (·.1) = false := by intro _; rfl) :
    DE X W (tMT X.K (rIndexT X.K) ta (tCons tb tNil)) Ga (.Call (.Attribute a "index" p3) [b] [] p2) Ga2 .s (fIdxT fa fb) :=
  ⟨fun ii => pe_mt PySem.F.plainAttrs_tuple PySem.F.slot_tuple_index PySem.F.type_tuple_index (mt_indexT hu) (ha.pe ii) (pa_cons (hb.pe ii) pa_nil (hs ii)) (hbase ii) (hfew ii) hline (hs ii) (hplain ii), Sem.idxT ha.sm hb.sm⟩
end
/-! ### ==, in: operators that want room -/
abbrev OpU (op : CmpOp) (r : PySem.W.Frag → R2) : Prop := ∀ {Y : Cx}, Y.A.units + 65 < cLine → OpR Y (compareOp op) (r Y.K)
theorem opU_eq : OpU .Eq rEqD := fun h => op_eqD (by omega)
theorem opU_ne : OpU .NotEq rNeD := fun h => op_neD (by omega)
theorem opU_in : OpU .In rInA := fun h => op_inA h
theorem opU_notin : OpU .NotIn rNotInA := fun h => op_notInA h
section
variable {I : Type} {X : Cf I} {W : WX} {Ga Ga1 Ga2 : List Sh} {sa sb : Sh} {fa fb : Fx} {a b : Expr} {ta tb : TE} {pos : Pos}
theorem DE.cmpU {op : CmpOp} {r : PySem.W.Frag → R2} {g : D → D → R D} (hu : X.A.units + 65 < cLine) (ho : OpU op r) (hr : Op2 (bd X) (r X.K) g) (ha : DE X W ta Ga a Ga1 sa fa) (hb : DE X W tb Ga1 b Ga2 sb fb)
    (fl : sa.flat = true := by rfl) (fl2 : sb.flat = true := by rfl) (s1 : seen Ga2 sa = true := by rfl) (s2 : seen Ga2 sb = true := by rfl) (hm : behindInMarks op b = false := by first | exact nomark _ | rfl) : DE X W (tOp (r X.K) ta tb) Ga (.Compare a [op] [b] pos) Ga2 .s (fOp2 g sa sb fa fb) :=
  DE.cmp (fun _ => ho hu) hr ha hb fl fl2 s1 s2 hm
theorem DT.cmpU {op : CmpOp} {r : PySem.W.Frag → R2} {g : D → D → R D} (hu : X.A.units + 65 < cLine) (ho : OpU op r) (hr : Op2 (bd X) (r X.K) g) (ha : DE X W ta Ga a Ga1 sa fa) (hb : DE X W tb Ga1 b Ga2 sb fb)
    (fl : sa.flat = true := by rfl) (fl2 : sb.flat = true := by rfl) (s1 : seen Ga2 sa = true := by rfl) (s2 : seen Ga2 sb = true := by rfl) (hm : behindInMarks op b = false := by first | exact nomark _ | rfl) : DT X W (tTest (tOp (r X.K) ta tb)) Ga (.Compare a [op] [b] pos) Ga2 (fTest (fOp2 g sa sb fa fb) asB) :=
  DT.cmp (fun _ => ho hu) hr ha hb fl fl2 s1 s2 hm
end
/-! ### == of texts too -/
def dEqA (x y : D) : R D := match x, y with
  | .str a, .str b => .ok (.bl (decide (a = b)))
  | x, y => dEq x y
def dNeA (x y : D) : R D := match x, y with
  | .str a, .str b => .ok (.bl (!decide (a = b)))
  | x, y => dNe x y
def rEqA (K : PySem.W.Frag) : R2 := fun x y H Q => rEqD K x y H Q ∨ rEq x y H Q
def rNeA (K : PySem.W.Frag) : R2 := fun x y H Q => rNeD K x y H Q ∨ rNe x y H Q
theorem opU_eqA : OpU .Eq rEqA := fun h => (op_eqD (by omega)).or op_eq
theorem opU_neA : OpU .NotEq rNeA := fun h => (op_neD (by omega)).or op_ne
theorem str_eq {a b : Str} : decide (V.str a = V.str b) = decide (a = b) := by
  by_cases h : a = b
  · subst h
    simp
  · have : ¬ V.str a = V.str b := fun z => h (by cases z; rfl)
    rw [decide_eq_false h, decide_eq_false this]
theorem At.strv {Ga : List Sh} {fps : List (List Addr)} {sg : St} {rho : List D} {sh : Sh} {v : V} {d : D} {a : Str} (x : At B G H Ga fps sg rho) (h : Val B G H sg sh [] v d) (s : seen Ga sh = true) (e : res sh d rho = .str a) : v = .str a := by
  obtain ⟨G1, _, _, r⟩ := x.view h s
  rw [e] at r
  cases r
  rfl
theorem o2_eqA : Op2 B (rEqA B.K) dEqA := fun G H W Ga fps sg rho sa sb d e v w Q a v1 v2 s1 s2 p => by
  unfold dEqA at p
  split at p
  · rename_i x y e1 e2
    obtain rfl := a.strv v1 s1 e1
    obtain rfl := a.strv v2 s2 e2
    exact .inr ⟨rfl, by rw [str_eq]; exact Post.flat a p (.bl _)⟩
  · exact .inl (o2_eq G H W Ga fps sg rho sa sb d e v w Q a v1 v2 s1 s2 p)
theorem o2_neA : Op2 B (rNeA B.K) dNeA := fun G H W Ga fps sg rho sa sb d e v w Q a v1 v2 s1 s2 p => by
  unfold dNeA at p
  split at p
  · rename_i x y e1 e2
    obtain rfl := a.strv v1 s1 e1
    obtain rfl := a.strv v2 s2 e2
    exact .inr ⟨rfl, by rw [str_eq]; exact Post.flat a p (.bl _)⟩
  · exact .inl (o2_ne G H W Ga fps sg rho sa sb d e v w Q a v1 v2 s1 s2 p)
/-! ### repr of a list, a tuple -/
def dRepr : List D → R D
  | [d] => match d with
    | .tup _ => reprR d
    | .lst _ => reprR d
    | _ => stuck
  | _ => stuck
where reprR (d : D) : R D := match d.py with
    | some p => if p.showable = true ∧ p.depth ≤ 64 ∧ p.shown.length ≤ 16777216 then .ok (.str p.shown) else stuck
    | none => stuck
def rRepr (K : PySem.W.Frag) : List V → Hp → VK → Prop := fun xs H Q => ∃ a p, xs = [V.ref a] ∧ Dp K H (.ref a) p ∧ p.showable = true ∧ p.hasDict = false ∧ p.depth ≤ 64 ∧ p.shown.length ≤ sizeLine ∧ Q (.str p.shown) H
theorem call_repr {X : Cx} (hg : X.A.guards = some []) (hu : X.A.units + 70 < cLine) : CallR X (.builtin "repr") (rRepr X.K) := by
  intro pins s sg H xs us Q I r h
  obtain ⟨a, p, rfl, hd, h1, h2, h3, h4, q⟩ := h
  obtain ⟨u, rfl, rx⟩ := vals1 r
  have ru := rx
  cases rx
  obtain ⟨as, rd⟩ := Dp.reads I p (.ref a) _ hd ru
  exact PySem.repr_of_reads' (h₀ := s.heap) rd h1 (PyData.noDict_hsm h2) hg (by omega) (fun _ _ e => e) (fun h' t tk hk => ⟨.str p.shown, H, I.kept (t' := tk) hk, ⟨t, rfl⟩, q⟩) h4
mutual
theorem py_noDict : ∀ {d : D} {p : PyData}, d.py = some p → p.hasDict = false
  | .non, p, h => by
    cases h
    rfl
  | .bl _, p, h => by
    cases h
    rfl
  | .int _, p, h => by
    cases h
    rfl
  | .str _, p, h => by
    cases h
    rfl
  | .tup ds, p, h => by
    simp only [D.py, Option.map_eq_some_iff] at h
    obtain ⟨ps, e, rfl⟩ := h
    simp only [PyData.hasDict]
    exact pys_noDict e
  | .lst ds, p, h => by
    simp only [D.py, Option.map_eq_some_iff] at h
    obtain ⟨ps, e, rfl⟩ := h
    simp only [PyData.hasDict]
    exact pys_noDict e
  | .dct _ _, p, h => by simp [D.py] at h
  | .ins _ _ _, p, h => by simp [D.py] at h
theorem pys_noDict : ∀ {ds : List D} {ps : List PyData}, D.pys ds = some ps → PyData.hasDictAll ps = false
  | [], ps, h => by
    cases h
    rfl
  | d :: ds, ps, h => by
    simp only [D.pys] at h
    split at h
    · rename_i p qs e1 e2
      cases h
      simp only [PyData.hasDictAll, py_noDict e1, pys_noDict e2]
      rfl
    · cases h
end
theorem cd_repr : CallD B (rRepr B.K) dRepr := fun G H W Ga fps sg rho shs ds vs Q a vl f p => by
  unfold dRepr at p
  split at p
  · rename_i x e
    obtain ⟨sh, v, d, rfl, rfl, rfl, e1, v1⟩ := vl.one e
    obtain ⟨G1, _, x1, r1⟩ := a.view v1 (seen_of (by simpa using f))
    rw [e1] at r1
    have key : ∀ {b : Addr}, v = .ref b → Post B W Ga .s sg G H fps.flatten Q (lift (dRepr.reprR x) rho) → rRepr B.K [v] H Q := fun {b} ev q => by
      subst ev
      unfold dRepr.reprR at q
      split at q
      · rename_i pd e2
        split at q
        · rename_i hc
          exact ⟨b, pd, rfl, r1.dp x1 e2, hc.1, py_noDict e2, hc.2.1, small_line hc.2.2, Post.flat a q (.str _)⟩
        · exact q.elim
      · exact q.elim
    split at p
    · cases r1 with
      | tup h r => exact key rfl p
    · cases r1 with
      | lst h r => exact key rfl p
    · exact p.elim
  · exact p.elim
theorem DE.repr {I : Type} {X : Cf I} {W : WX} {k : Nat} {tr : TA} {Ga Ga1 shs : List Sh} {fs : Fs} {e : Expr} {p pos : Pos} (hr : RoomG k X.A) (hm : X.mg "repr" = none) (ha : DA X W tr Ga [e] Ga1 shs fs) (f : shs.all (seen1 Ga1) = true := by rfl) (hg : ∀ ii, Gl (X.at ii) "repr" := by intro _; rfl)
    (he : ∀ ii, starEach [e] (X.env ii) = (false, eval e (X.env ii)) :: starEach [] (X.env ii) := by intro _; rfl) (hpl : ∀ ii, (backTo pos (starEach [] (X.env ii))).any (·.1) = false := by intro _; rfl) :
    DE X W (tCB (rRepr X.K) tr) Ga (.Call (.Name "repr" p) [e] [] pos) Ga1 .s (fCall dRepr shs fs) :=
  have hu : X.A.units + 70 < cLine := by have := hr.r.un; omega
  DE.callB (fun _ => call_repr hr.g hu) cd_repr PyProof.Rows.boot_repr hm ha f hg (by decide) (by decide) he hpl
/-! ### name[i] op= value, name an own list of numbers -/
def rGetL (K : PySem.W.Frag) : V → V → Hp → VK → Prop := fun o i H Q => ∃ p xs k v, o = .ref p ∧ i = .int (k : Nat) ∧ SqL K H p xs ∧ xs[k]? = some v ∧ Q v H
theorem get_list {X : Cx} : PGet X (rGetL X.K) := by
  intro pins s sg H o i ov iv Q I ro ri h
  obtain ⟨p, xs, k, v, rfl, rfl, hq, hv, q⟩ := h
  cases ro
  obtain ⟨t, rfl⟩ := ri
  obtain ⟨its, r, pl, hz⟩ := I.list hq
  obtain ⟨w, ew, rw'⟩ := r.get hv
  have hl := r.length
  have hn := line63
  have hk := (List.getElem?_eq_some_iff.mp hv).1
  exact PyProof.Rows.getItem_listL pl.isList (by omega) (by omega) (by simpa using ew) ⟨v, H, I, rw', q⟩
def sAugIx (k : Nat) (h : Int → Int → Int) (fi fe : Fx) : Fst := fun rho => match fi rho with
  | .ok (i, rho1) => match i, rho1.getD k .non with
    | .int i, .lst ds => match ds[i.toNat]? with
      | some (.int x) => if 0 ≤ i then (match fe rho1 with
        | .ok (e, rho2) => match e, rho2.getD k .non with
          | .int y, .lst ds2 => if i.toNat < ds2.length then .ok (.nx (rho2.set k (.lst (ds2.set i.toNat (.int (h x y)))))) else stuck
          | _, _ => stuck
        | .error e => .error e) else stuck
      | _ => stuck
    | _, _ => stuck
  | .error e => .error e
section
variable {I : Type} {X : Cf I} {W : WX} {C : Ctl} {Ga Ga1 Ga2 : List Sh} {fi fe : Fx} {b e : Expr} {ti te : TE} {pos p p2 : Pos}
theorem SemS.augIx {k : Nat} {h : Int → Int → Int} (hi : Sem B W ti Ga Ga1 .s fi) (he : Sem B W te Ga1 Ga2 .s fe) (hg0 : Ga[k]? = some (.l .s)) (hg1 : Ga1[k]? = some (.l .s)) (hg2 : Ga2[k]? = some (.l .s)) :
    SemS B W C (tAugS (tVar k) ti te (rGetL B.K) (ipI h) rSetL) Ga Ga2 (sAugIx k h fi fe) := fun G H fps sg rho E av p => by
  obtain ⟨q, vs0, ds0, hq, _, hl0, _, _⟩ := av.mut hg0
  refine ⟨.ref q, hq, hi G H fps sg rho _ av ?_⟩
  unfold sAugIx at p
  cases e1 : fi rho with
  | error x =>
    rw [e1] at p
    exact p.errE
  | ok z =>
    obtain ⟨i, rho1⟩ := z
    rw [e1] at p
    intro G1 H1 fps1 fp v r
    obtain ⟨rfl, rv⟩ := r.vl.of_s
    have st := r.st
    rw [List.append_nil] at st
    obtain ⟨q', vs, ds, hq', hd, hl, rs, up⟩ := r.av.mut hg1
    rw [hq] at hq'
    cases hq'
    have p1 := p.later st (Kp.refl _ _)
    simp only [getD_of hd] at p1
    cases i with
    | int i =>
      cases rv
      simp only at p1
      split at p1
      · rename_i x ex
        split at p1
        · rename_i h0
          obtain ⟨k', rfl⟩ := Int.eq_ofNat_of_zero_le h0
          rw [Int.toNat_natCast] at ex p1
          obtain ⟨w, ew, rw2⟩ := rs.get ex
          cases rw2
          refine ⟨q, vs, k', .int x, rfl, rfl, SqL.of hl, ew, he G1 H1 fps1 sg rho1 _ r.av ?_⟩
          cases e2 : fe rho1 with
          | error x =>
            rw [e2] at p1
            exact p1.errE
          | ok z =>
            obtain ⟨y, rho2⟩ := z
            rw [e2] at p1
            intro G2 H2 fps2 fp2 w2 r2
            obtain ⟨rfl, rv2⟩ := r2.vl.of_s
            have st2 := r2.st
            rw [List.append_nil] at st2
            obtain ⟨q', vs2, ds2, hq', hd2, hl2, rs2, up2⟩ := r2.av.mut hg2
            rw [hq] at hq'
            cases hq'
            have p2 := p1.later st2 (Kp.refl _ _)
            simp only [getD_of hd2] at p2
            cases y with
            | int y =>
              cases rv2
              simp only at p2
              split at p2
              · rename_i hlen
                refine ⟨x, y, rfl, rfl, q, vs2, (k' : Int), k', rfl, rfl, hl2, ?_, ?_⟩
                · unfold ixN
                  rw [if_pos (by omega), if_pos (by rw [rs2.length]; omega)]
                  simp
                · obtain ⟨a3, s3⟩ := up2 _ _ (rs2.set k' (.int (h x y)))
                  exact p2 _ _ _ _ s3 a3 (Kp.refl _ _)
              · exact p2.elim
            | _ => exact p2.elim
        · exact p1.elim
      · exact p1.elim
    | _ => exact p1.elim
theorem DS.augIx (k : Nat) {x : Str} {op : Operator} {h : Int → Int → Int} (hop : ∀ ii, PIp (X.at ii) op (ipI h)) (hi : DE X W ti Ga b Ga1 .s fi) (he : DE X W te Ga1 e Ga2 .s fe) (hg0 : Ga[k]? = some (.l .s) := by rfl) (hg1 : Ga1[k]? = some (.l .s) := by rfl) (hg2 : Ga2[k]? = some (.l .s) := by rfl)
    (hN : X.N[k]? = some x := by rfl) (hv : ∀ ii, Vis (X.env ii).scope x := by intro _; first | exact Or.inl rfl | exact Or.inr (Or.inl rfl) | exact Or.inr (Or.inr rfl))
    (hd : (x == ("__debug__" : Str)) = false := by decide) (hc : (x == ("__classdict__" : Str)) = false := by decide)
    (ha : ∀ ov iv new, augStore b ov iv new = (do holding [new, ov, iv] (setItem ov iv new); release [new, ov, iv] []; pure .next) := by intros; rfl) :
    DS X W C (tAugS (tVar k) ti te (rGetL X.K) (ipI h) rSetL) Ga (.AugAssign (.Subscript (.Name x p) b p2) op e pos) Ga2 (sAugIx k h fi fe) :=
  ⟨fun ii => ps_augS (pe_var hN (hv ii) hd hc) (hi.pe ii) get_list (he.pe ii) (hop ii) set_list ha, SemS.augIx hi.sm he.sm hg0 hg1 hg2⟩
end
/-! ### calls by names -/
def pick {α : Type} : List Nat → List α → List α
  | [], _ => []
  | i :: r, xs => match xs[i]? with
    | some x => x :: pick r xs
    | none => pick r xs
theorem Vals.pick {vs : List V} {us : List Value} (h : Vals vs us) : ∀ ord : List Nat, Vals (EB.pick ord vs) (EB.pick ord us)
  | [] => .nil
  | i :: r => by
    unfold EB.pick
    cases e : vs[i]? with
    | none =>
      have : us[i]? = none := by
        rw [List.getElem?_eq_none_iff] at e ⊢
        rw [← h.length]
        exact e
      rw [this]
      exact Vals.pick h r
    | some x =>
      obtain ⟨u, eu, ru⟩ := h.get e
      rw [eu]
      exact .cons ru (Vals.pick h r)
theorem Reps.pick {vs : List V} {ds : List D} (h : Reps B G vs ds) : ∀ ord : List Nat, Reps B G (EB.pick ord vs) (EB.pick ord ds)
  | [] => .nil
  | i :: r => by
    unfold EB.pick
    cases e : ds[i]? with
    | none =>
      have : vs[i]? = none := by
        rw [List.getElem?_eq_none_iff] at e ⊢
        rw [h.length]
        exact e
      rw [this]
      exact Reps.pick h r
    | some x =>
      obtain ⟨u, eu, ru⟩ := h.get e
      rw [eu]
      exact .cons ru (Reps.pick h r)
theorem ValL.of_reps {sg : St} : ∀ {vs : List V} {ds : List D}, Reps B G vs ds → ValL B G H sg (List.replicate ds.length .s) vs ds
  | _, _, .nil => .nil
  | _, _, .cons r h => by
    rw [List.length_cons, List.replicate_succ]
    exact .cons (.s r) (ValL.of_reps h)
theorem pick_len {α : Type} {xs : List α} : ∀ {ord : List Nat}, (∀ i ∈ ord, i < xs.length) → (pick ord xs).length = ord.length
  | [], _ => rfl
  | i :: r, h => by
    unfold pick
    rw [List.getElem?_eq_getElem (h i List.mem_cons_self)]
    simp only [List.length_cons]
    rw [pick_len fun j hj => h j (List.mem_cons_of_mem _ hj)]
def tPick (n m : Nat) (ord : List Nat) (t tk : TA) : TA := fun sg H Q => t sg H fun vs H1 => vs.length = n ∧ tk sg H1 fun zs H2 => zs.length = m ∧ Q (pick ord (vs ++ zs)) H2
def fPick (ord : List Nat) (fs fk : Fs) : Fs := fun rho => match fs rho with
  | .ok (ds, rho1) => match fk rho1 with
    | .ok (es, rho2) => .ok (pick ord (ds ++ es), rho2)
    | .error e => .error e
  | .error e => .error e
def allS (shs : List Sh) : Bool := shs.all fun s => match s with | .s => true | _ => false
theorem ValL.len {sg : St} {shs : List Sh} {vs : List V} {ds : List D} (h : ValL B G H sg shs vs ds) : ds.length = shs.length ∧ vs.length = shs.length := by
  induction h with
  | nil => exact ⟨rfl, rfl⟩
  | cons _ _ ih => exact ⟨by simp [ih.1], by simp [ih.2]⟩
theorem SemA.pick {W : WX} {t tk : TA} {Ga Ga1 Ga2 shs shk : List Sh} {fs fk : Fs} (ord : List Nat) (h : SemA B W t Ga Ga1 shs fs) (h2 : SemA B W tk Ga1 Ga2 shk fk) (s1 : allS shs = true) (s2 : allS shk = true) (hi : ord.all (fun i => decide (i < shs.length + shk.length)) = true) :
    SemA B W (tPick shs.length shk.length ord t tk) Ga Ga2 (List.replicate ord.length .s) (fPick ord fs fk) := fun G H fps sg rho Q av p => by
  refine h G H fps sg rho _ av ?_
  unfold fPick at p
  cases e : fs rho with
  | error x =>
    rw [e] at p
    cases x with
    | exc c => exact p
    | stuck => exact p
    | fuel => exact p
  | ok z =>
    obtain ⟨ds, rho1⟩ := z
    rw [e] at p
    intro G1 H1 fps1 vs st1 a1 vl
    refine ⟨vl.len.2, h2 G1 H1 fps1 sg rho1 _ a1 ?_⟩
    have p1 := p.later st1
    simp only at p1
    cases e2 : fk rho1 with
    | error x =>
      rw [e2] at p1
      cases x with
      | exc c => exact p1
      | stuck => exact p1
      | fuel => exact p1
    | ok z =>
      obtain ⟨es, rho2⟩ := z
      rw [e2] at p1
      intro G2 H2 fps2 zs st2 a2 vl2
      have r1 := (vl.reps s1).mono st2.g
      have r2 := vl2.reps s2
      have r := Reps.pick (r1.append r2) ord
      have hl : (EB.pick ord (ds ++ es)).length = ord.length := pick_len fun i hm => by
        have := of_decide_eq_true (List.all_eq_true.mp hi i hm)
        rw [List.length_append, vl.len.1, vl2.len.1]
        exact this
      have vp := ValL.of_reps (sg := sg) (H := H2) r
      rw [hl] at vp
      exact ⟨vl2.len.2, p1 G2 H2 fps2 _ st2 a2 vp⟩
structure DK {I : Type} (X : Cf I) (W : WX) (tk : TA) (Ga : List Sh) (kws : List Keyword) (Ga' : List Sh) (shs : List Sh) (f : Fs) : Prop where
  pe : ∀ ii, PK (X.at ii) kws tk
  sm : SemA (bd X) W tk Ga Ga' shs f
theorem DK.nil {I : Type} {X : Cf I} {W : WX} {Ga : List Sh} : DK X W tNil Ga [] Ga [] fNil := ⟨fun _ => pk_nil, SemA.nil⟩
theorem DK.cons {I : Type} {X : Cf I} {W : WX} {ta : TE} {tr : TA} {Ga Ga1 Ga2 shs : List Sh} {sa : Sh} {fa : Fx} {fs : Fs} {a : Expr} {nm : Option Str} {kp : Pos} {kws : List Keyword} (h : DE X W ta Ga a Ga1 sa fa) (h2 : DK X W tr Ga1 kws Ga2 shs fs) (fl : sa.flat = true := by rfl) :
    DK X W (tCons ta tr) Ga (⟨nm, a, kp⟩ :: kws) Ga2 (sa :: shs) (fCons fa fs) := ⟨fun ii => pk_cons (h.pe ii) (h2.pe ii), SemA.cons h.sm h2.sm fl⟩
/-- how a call with n places and the names ks binds -/
def KwB (K : PySem.W.Frag) (fd : FuncData) (ps : List Str) (n : Nat) (ks : List Str) (ord : List Nat) : Prop :=
  ∀ (s : Shared) (us ws : List Value), K.In s.heap → us.length = n → ws.length = ks.length → BindsTo s fd ⟨us, ks.zip ws⟩ (ps.zip (pick ord (us ++ ws)))
theorem kwB_of {K : PySem.W.Frag} {x qual : Str} {st : Stmt} {f : Addr} {fd : FuncData} {ps ks : List Str} {n : Nat} {ord : List Nat} (F : Fun K x qual st f fd)
    (h : ∀ (kV doc pm : Value) (an : Option Addr) (cdv ct : Value) (us ws : List Value), us.length = n → ws.length = ks.length → bindArgs (PySem.W.fnOf x qual (defArgs st) (defBody st) (defScope st) .none kV doc pm an cdv ct) ⟨us, ks.zip ws⟩ = pure (ps.zip (pick ord (us ++ ws)))) : KwB K fd ps n ks ord := by
  obtain ⟨oc, od, kV, doc, pm, an, cdv, ct, osl, e, lk, hc⟩ := F.ex
  subst e
  exact fun s us ws _ h1 h2 => .of_eq (h kV doc pm an cdv ct us ws h1 h2)
structure DefK (P : Program) (w : World) (K : PySem.W.Frag) (mg : Str → Option Value) (base : Heap) (k : Nat) (x : Str) (ps : List Str) (Gp Mp : List Sh) (rs : Sh) (m : Fn) (n : Nat) (ks : List Str) (ord : List Nat) : Prop where
  ex : ∃ (f : Addr) (fd : FuncData), mg x = some (.ref f) ∧ PySem.W.keepIn K (.ref f) = true ∧ KwB K fd ps n ks ord ∧ FnG P w K mg base (L2.CX P w) k f fd ps (spOf ⟨K, mg⟩ Gp Mp rs m)
theorem DefK.mono {P : Program} {w : World} {K : PySem.W.Frag} {mg : Str → Option Value} {base : Heap} {k j : Nat} {x : Str} {ps : List Str} {Gp Mp : List Sh} {rs : Sh} {m : Fn} {n : Nat} {ks : List Str} {ord : List Nat} (d : DefK P w K mg base k x ps Gp Mp rs m n ks ord) (h : k ≤ j) : DefK P w K mg base j x ps Gp Mp rs m n ks ord := by
  obtain ⟨f, fd, h1, h2, h3, h4⟩ := d.ex
  exact ⟨f, fd, h1, h2, h3, h4.mono h⟩
section
variable {X : Cx} {CX : CXT} {k n : Nat} {f : Addr} {fd : FuncData} {ps ks : List Str} {ord : List Nat} {sp : Sp} {E : St → XK} {x : Str} {p pos : Pos} {e : Expr} {es : List Expr} {kws : List Keyword} {t tk : TA}
theorem run_fnGk {pins : List (Addr × Obj)} {sg : St} {H : Hp} {s : Shared} {Q : VK} {us ws : List Value} {vs zs : List V} (F : FnG X.prog X.w X.K X.mg X.base CX k f fd ps sp) (hr : RoomG k X.A) (hb : KwB X.K fd ps n ks ord) (hx : PassesAt CX X sg (E sg))
    (I : L2.Inv X pins sg H s) (r : Vals vs us) (rz : Vals zs ws) (h1 : us.length = n) (h2 : ws.length = ks.length) (h : sp (pick ord (vs ++ zs)) H Q (E sg)) : wpAny (model X.prog X.w) X.A (call (.ref f) us (ks.zip ws)) (EP X pins sg Q) X.xe s := by
  have b := hb s us ws I.kIn h1 h2
  refine wpAny_call (codeAny_mono (F.run X.A X.stack s H ⟨us, ks.zip ws⟩ _ _ Q (E sg) hr I.env0 b (Vals.pick (r.append rz) ord) h) fun res s2 hq => ?_)
  match res, hq with
  | .error er, hq => exact hx pins H s er s2 I hq
  | .ok (.ret u), hq => exact I.after hq
theorem pe_callGk (F : FnG X.prog X.w X.K X.mg X.base CX k f fd ps sp) (hr : RoomG k X.A) (hg : Gl X x) (hm : X.mg x = some (.ref f)) (hk : PySem.W.keepIn X.K (.ref f) = true) (hb : KwB X.K fd ps n ks ord) (hx : ∀ sg, PassesAt CX X sg (E sg))
    (ha : PA X (e :: es) t) (hkw : PK X kws tk) (hall : (backToKw pos (keywordEach kws X.env)).all (·.1.isSome) = true) (hks : (backToKw pos (keywordEach kws X.env)).filterMap (·.1) = ks)
    (hdb : (x == ("__debug__" : Str)) = false) (he : starEach (e :: es) X.env = (false, eval e X.env) :: starEach es X.env)
    (hpl : ((backTo pos (starEach (e :: es) X.env)).any (·.1) || (backToKw pos (keywordEach kws X.env)).any (·.1.isNone)) = false) :
    PE X (.Call (.Name x p) (e :: es) kws pos) (tCallS sp E (tPick n ks.length ord t tk)) := by
  refine ⟨fun pins s sg H Q I h => ?_⟩
  refine wpAny_Call_Name_kw (ld_glob I hg hm ?_ hdb)
  refine PySem.W.callWith_KW (h₀ := X.base) I.ok.mod.kin hk hall (thn (ha.run pos pins s sg H _ I h) fun us s1 ⟨vs, H1, I1, r, n1, q⟩ => ?_) hpl he
  refine thn (hkw.run pos pins s1 sg H1 _ I1 q) fun ws s2 ⟨zs, H2, I2, rz, n2, q2⟩ => ⟨I2.kIn, ?_⟩
  rw [hks]
  exact run_fnGk F hr hb (hx sg) I2 r rz (by rw [List.nil_append, ← r.length]; exact n1) (by rw [← rz.length]; exact n2) q2
theorem pe_callGk0 (F : FnG X.prog X.w X.K X.mg X.base CX k f fd ps sp) (hr : RoomG k X.A) (hg : Gl X x) (hm : X.mg x = some (.ref f)) (hk : PySem.W.keepIn X.K (.ref f) = true) (hb : KwB X.K fd ps 0 ks ord) (hx : ∀ sg, PassesAt CX X sg (E sg))
    (hkw : PK X kws tk) (hall : (backToKw pos (keywordEach kws X.env)).all (·.1.isSome) = true) (hks : (backToKw pos (keywordEach kws X.env)).filterMap (·.1) = ks)
    (hdb : (x == ("__debug__" : Str)) = false) (hpl : ((backTo pos (starEach [] X.env)).any (·.1) || (backToKw pos (keywordEach kws X.env)).any (·.1.isNone)) = false) :
    PE X (.Call (.Name x p) [] kws pos) (tCallS sp E (tPick 0 ks.length ord tNil tk)) := by
  refine ⟨fun pins s sg H Q I h => ?_⟩
  refine wpAny_Call_Name_kw (ld_glob I hg hm ?_ hdb)
  refine PySem.W.callWith_KW0 (h₀ := X.base) I.ok.mod.kin hk hall ?_ hpl
  refine thn (hkw.run pos pins s sg H _ I h.2) fun ws s2 ⟨zs, H2, I2, rz, n2, q2⟩ => ⟨I2.kIn, ?_⟩
  rw [hks]
  exact run_fnGk F hr hb (hx sg) I2 .nil rz rfl (by rw [← rz.length]; exact n2) q2
end
/-- a call with places and names, nothing owned -/
theorem DE.ownK {I : Type} {X : Cf I} {W : WX} {k j : Nat} {x : Str} {ps ks : List Str} {t tk : TA} {Ga Ga1 Ga2 Gp Mp shs shk : List Sh} {rs : Sh} {fs fk : Fs} {m : Fn} {e : Expr} {es : List Expr} {kws : List Keyword} {p pos : Pos} {ord : List Nat}
    (d : DefK X.prog X.w X.K X.mg X.base k x ps Gp Mp rs m shs.length ks ord) (hr : RoomG j X.A) (tks : ∀ ii, Takes (X.at ii) W) (hk : decide (k ≤ j) = true) (ha : DA X W t Ga (e :: es) Ga1 shs fs) (hw : DK X W tk Ga1 kws Ga2 shk fk)
    (s1 : allS shs = true := by rfl) (s2 : allS shk = true := by rfl) (hi : ord.all (fun i => decide (i < shs.length + shk.length)) = true := by rfl) (hl : shk.length = ks.length := by rfl) (ok : argOk Ga2 Gp (List.replicate ord.length .s) = true := by rfl) (hM : Mp.length = Gp.length := by rfl)
    (hg : ∀ ii, Gl (X.at ii) x := by intro _; rfl) (hdb : (x == ("__debug__" : Str)) = false := by decide) (he : ∀ ii, starEach (e :: es) (X.env ii) = (false, eval e (X.env ii)) :: starEach es (X.env ii) := by intro _; rfl)
    (hall : ∀ ii, (backToKw pos (keywordEach kws (X.env ii))).all (·.1.isSome) = true := by intro _; rfl) (hks : ∀ ii, (backToKw pos (keywordEach kws (X.env ii))).filterMap (·.1) = ks := by intro _; rfl)
    (hpl : ∀ ii, ((backTo pos (starEach (e :: es) (X.env ii))).any (·.1) || (backToKw pos (keywordEach kws (X.env ii))).any (·.1.isNone)) = false := by intro _; rfl) :
    DE X W (tCallS (spOf (bd X) Gp Mp rs m) (WE W) (tPick shs.length shk.length ord t tk)) Ga (.Call (.Name x p) (e :: es) kws pos) Ga2 rs (fOwn m (List.replicate ord.length .s) [] (fPick ord fs fk)) := by
  obtain ⟨f, fd, h1, h2, h3, h4⟩ := d.ex
  refine ⟨fun ii => ?_, Sem.own [] (SemA.pick ord ha.sm hw.sm s1 s2 hi) ok ?_ ?_ List.nodup_nil rfl rfl hM rfl⟩
  · rw [hl]
    exact pe_callGk h4 (hr.mono (of_decide_eq_true hk)) (hg ii) h1 h2 h3 (fun sg => passAt (tks ii) sg) (ha.pe ii) (hw.pe ii) (hall ii) (hks ii) hdb (he ii) (hpl ii)
  · have : ((List.replicate ord.length Sh.s).filterMap Sh.slot) = [] := by simp [List.filterMap_eq_nil_iff, Sh.slot]
    rw [this]
    exact List.nodup_nil
  · simp [List.filterMap_eq_nil_iff, Sh.slot]
theorem DE.ownK0 {I : Type} {X : Cf I} {W : WX} {k j : Nat} {x : Str} {ps ks : List Str} {tk : TA} {Ga Ga2 Gp Mp shk : List Sh} {rs : Sh} {fk : Fs} {m : Fn} {kws : List Keyword} {p pos : Pos} {ord : List Nat}
    (d : DefK X.prog X.w X.K X.mg X.base k x ps Gp Mp rs m 0 ks ord) (hr : RoomG j X.A) (tks : ∀ ii, Takes (X.at ii) W) (hk : decide (k ≤ j) = true) (hw : DK X W tk Ga kws Ga2 shk fk)
    (s2 : allS shk = true := by rfl) (hi : ord.all (fun i => decide (i < 0 + shk.length)) = true := by rfl) (hl : shk.length = ks.length := by rfl) (ok : argOk Ga2 Gp (List.replicate ord.length .s) = true := by rfl) (hM : Mp.length = Gp.length := by rfl)
    (hg : ∀ ii, Gl (X.at ii) x := by intro _; rfl) (hdb : (x == ("__debug__" : Str)) = false := by decide)
    (hall : ∀ ii, (backToKw pos (keywordEach kws (X.env ii))).all (·.1.isSome) = true := by intro _; rfl) (hks : ∀ ii, (backToKw pos (keywordEach kws (X.env ii))).filterMap (·.1) = ks := by intro _; rfl)
    (hpl : ∀ ii, ((backTo pos (starEach [] (X.env ii))).any (·.1) || (backToKw pos (keywordEach kws (X.env ii))).any (·.1.isNone)) = false := by intro _; rfl) :
    DE X W (tCallS (spOf (bd X) Gp Mp rs m) (WE W) (tPick 0 shk.length ord tNil tk)) Ga (.Call (.Name x p) [] kws pos) Ga2 rs (fOwn m (List.replicate ord.length .s) [] (fPick ord fNil fk)) := by
  obtain ⟨f, fd, h1, h2, h3, h4⟩ := d.ex
  refine ⟨fun ii => ?_, Sem.own [] (SemA.pick ord SemA.nil hw.sm rfl s2 hi) ok ?_ ?_ List.nodup_nil rfl rfl hM rfl⟩
  · rw [hl]
    exact pe_callGk0 h4 (hr.mono (of_decide_eq_true hk)) (hg ii) h1 h2 h3 (fun sg => passAt (tks ii) sg) (hw.pe ii) (hall ii) (hks ii) hdb (hpl ii)
  · have : ((List.replicate ord.length Sh.s).filterMap Sh.slot) = [] := by simp [List.filterMap_eq_nil_iff, Sh.slot]
    rw [this]
    exact List.nodup_nil
  · simp [List.filterMap_eq_nil_iff, Sh.slot]
end EB
namespace EB
open PySem L2
/-! ### what a run of a mirror must end in -/
def wR {α : Type} (r : R α) (P : α → Prop) : Prop := match r with
  | .ok d => P d
  | .error _ => False
def wE {α : Type} (r : R (α × List D)) (P : α → List D → Prop) : Prop := match r with
  | .ok (d, rho) => P d rho
  | .error _ => False
/-- of a block: going on, handing back -/
def wS (r : R Fl) (P : List D → Prop) (Q : D → List D → Prop) (Bk Ct : List D → Prop) : Prop := match r with
  | .ok (.nx rho) => P rho
  | .ok (.rt d rho) => Q d rho
  | .ok (.bk rho) => Bk rho
  | .ok (.ct rho) => Ct rho
  | .error _ => False
section
variable {α : Type} {P P' : α → List D → Prop} {r : R (α × List D)}
theorem wE.mono (h : wE r P) (k : ∀ d rho, P d rho → P' d rho) : wE r P' := by
  unfold wE at h ⊢
  split at h
  · exact k _ _ h
  · exact h.elim
theorem wE.iff : wE r P ↔ ∃ d rho, r = .ok (d, rho) ∧ P d rho := by
  unfold wE
  split
  · exact ⟨fun h => ⟨_, _, rfl, h⟩, fun ⟨d, rho, e, h⟩ => by cases e; exact h⟩
  · exact ⟨fun h => h.elim, fun ⟨d, rho, e, h⟩ => by cases e⟩
theorem wE.and {P2 : α → List D → Prop} (h : wE r P) (h2 : wE r P2) : wE r fun d rho => P d rho ∧ P2 d rho := by
  unfold wE at *
  split at h
  · exact ⟨h, h2⟩
  · exact h.elim
@[simp] theorem wE_ok {d : α} {rho : List D} : wE (.ok (d, rho)) P = P d rho := rfl
@[simp] theorem wE_er {e : Er} : wE (.error e : R (α × List D)) P = False := rfl
@[simp] theorem wR_ok {β : Type} {d : β} {P : β → Prop} : wR (.ok d) P = P d := rfl
@[simp] theorem wR_er {β : Type} {e : Er} {P : β → Prop} : wR (.error e) P = False := rfl
theorem wR.mono {β : Type} {r : R β} {P P' : β → Prop} (h : wR r P) (k : ∀ d, P d → P' d) : wR r P' := by
  unfold wR at h ⊢
  split at h
  · exact k _ h
  · exact h.elim
theorem wS.mono {r : R Fl} {P P' : List D → Prop} {Q Q' : D → List D → Prop} {b b' c c' : List D → Prop} (h : wS r P Q b c) (k : ∀ rho, P rho → P' rho) (k2 : ∀ d rho, Q d rho → Q' d rho) (k3 : ∀ rho, b rho → b' rho) (k4 : ∀ rho, c rho → c' rho) : wS r P' Q' b' c' := by
  unfold wS at h ⊢
  split at h
  · exact k _ h
  · exact k2 _ _ h
  · exact k3 _ h
  · exact k4 _ h
  · exact h.elim
end
/-- a truth, a number -/
def isB (d : D) (P : Bool → Prop) : Prop := match d with
  | .bl b => P b
  | _ => False
def isI (d : D) (P : Int → Prop) : Prop := match d with
  | .int b => P b
  | _ => False
def is1 (ds : List D) (P : D → Prop) : Prop := match ds with
  | [x] => P x
  | _ => False
def is2 (ds : List D) (P : D → D → Prop) : Prop := match ds with
  | [x, y] => P x y
  | _ => False
def isZ (x y : D) (P : List D → Prop) : Prop := match x, y with
  | .lst x, .lst y => P (List.zipWith (fun a b => D.tup [a, b]) x y)
  | .tup x, .tup y => P (List.zipWith (fun a b => D.tup [a, b]) x y)
  | _, _ => False
@[simp] theorem is1_1 {x : D} {P : D → Prop} : is1 [x] P = P x := rfl
@[simp] theorem is2_2 {x y : D} {P : D → D → Prop} : is2 [x, y] P = P x y := rfl
@[simp] theorem isZ_l {x y : List D} {P : List D → Prop} : isZ (.lst x) (.lst y) P = P (List.zipWith (fun a b => D.tup [a, b]) x y) := rfl
@[simp] theorem isZ_t {x y : List D} {P : List D → Prop} : isZ (.tup x) (.tup y) P = P (List.zipWith (fun a b => D.tup [a, b]) x y) := rfl
@[simp] theorem isB_bl {b : Bool} {P : Bool → Prop} : isB (.bl b) P = P b := rfl
@[simp] theorem isI_int {b : Int} {P : Int → Prop} : isI (.int b) P = P b := rfl
section
variable {P : D → List D → Prop} {fa fb fc : Fx} {g g' : D → D → R D} {sa sb : Sh} {rho : List D} {cf cg : Fb} {PT : Bool → List D → Prop} {PA : List D → List D → Prop} {fs : Fs}
@[simp] theorem w_var {i : Nat} : wE (fVar i rho) P = P (rho.getD i .non) rho := rfl
@[simp] theorem w_bor : wE (fBor rho) P = P .non rho := rfl
@[simp] theorem w_c {d : D} : wE (fC d rho) P = P d rho := rfl
@[simp] theorem w_un {k : D → Fx} : wE (fUn fa k rho) P = wE (fa rho) fun d r => wE (k d r) P := by
  unfold fUn wE
  cases fa rho <;> rfl
@[simp] theorem w_lift {r : R D} : wE (lift r rho) P = wR r fun d => P d rho := by
  unfold lift wE wR
  cases r <;> rfl
@[simp] theorem w_op2 : wE (fOp2 g sa sb fa fb rho) P = wE (fa rho) fun d r1 => wE (fb r1) fun e r2 => wR (g (res sa d r2) (res sb e r2)) fun z => P z r2 := by
  unfold fOp2 fBin
  simp only [w_un, w_lift]
@[simp] theorem w_op1 {k : D → R D} : wE (fOp1 k sa fa rho) P = wE (fa rho) fun d r1 => wR (k (res sa d r1)) fun z => P z r1 := by
  unfold fOp1
  simp only [w_un, w_lift]
@[simp] theorem w_andE : wE (fAndE fa fb rho) P = wE (fa rho) fun d r => isB d fun b => (b = true → wE (fb r) P) ∧ (b = false → P (.bl false) r) := by
  unfold fAndE
  rw [w_un]
  congr 1
  funext d r
  cases d with
  | bl b => cases b <;> simp [isB]
  | _ => simp [isB, stuck]
@[simp] theorem w_orE : wE (fOrE fa fb rho) P = wE (fa rho) fun d r => isB d fun b => (b = true → P (.bl true) r) ∧ (b = false → wE (fb r) P) := by
  unfold fOrE
  rw [w_un]
  congr 1
  funext d r
  cases d with
  | bl b => cases b <;> simp [isB]
  | _ => simp [isB, stuck]
@[simp] theorem w_notE : wE (fNotE fa rho) P = wE (fa rho) fun d r => isB d fun b => P (.bl (!b)) r := by
  unfold fNotE
  rw [w_un]
  congr 1
  funext d r
  cases d <;> simp [isB, stuck]
@[simp] theorem w_ifE : wE (fIfE cf fa fb rho) P = wE (cf rho) fun b r => (b = true → wE (fa r) P) ∧ (b = false → wE (fb r) P) := by
  unfold fIfE wE
  cases cf rho with
  | error e => rfl
  | ok z =>
    obtain ⟨b, r⟩ := z
    cases b <;> simp
@[simp] theorem w_nil : wE (fNil rho) PA = PA [] rho := rfl
@[simp] theorem w_cons : wE (fCons fa fs rho) PA = wE (fa rho) fun d r => wE (fs r) fun ds r2 => PA (d :: ds) r2 := by
  unfold fCons wE
  cases fa rho with
  | error e => rfl
  | ok z =>
    obtain ⟨d, r⟩ := z
    simp only
    cases fs r <;> rfl
@[simp] theorem w_args {k : List D → Fx} : wE (fArgs fs k rho) P = wE (fs rho) fun ds r => wE (k ds r) P := by
  unfold fArgs wE
  cases fs rho <;> rfl
@[simp] theorem w_call {k : List D → R D} {shs : List Sh} : wE (fCall k shs fs rho) P = wE (fs rho) fun ds r => wR (k (List.zipWith (fun sh d => res sh d r) shs ds)) fun z => P z r := by
  unfold fCall
  simp only [w_args, w_lift]
@[simp] theorem w_tup : wE (fTup fs rho) P = wE (fs rho) fun ds r => ds.length ≤ 16777216 ∧ P (.tup ds) r := by
  unfold fTup
  rw [w_args]
  congr 1
  funext ds r
  by_cases h : ds.length ≤ 16777216
  · rw [if_pos h]
    simp [h]
  · rw [if_neg h]
    simp only [wE_er, stuck, eq_iff_iff, false_iff]
    exact fun z => h z.1
@[simp] theorem w_lst : wE (fLst fs rho) P = wE (fs rho) fun ds r => ds.length ≤ 16777216 ∧ P (.lst ds) r := by
  unfold fLst
  rw [w_args]
  congr 1
  funext ds r
  by_cases h : ds.length ≤ 16777216
  · rw [if_pos h]
    simp [h]
  · rw [if_neg h]
    simp only [wE_er, stuck, eq_iff_iff, false_iff]
    exact fun z => h z.1
@[simp] theorem w_own {m : Fn} {shs : List Sh} {ow : List (Nat × Nat)} : wE (fOwn m shs ow fs rho) P = wE (fs rho) fun ds r => wE (m (List.zipWith (fun sh d => res sh d r) shs ds)) fun d out => P d (backD out r ow) := by
  unfold fOwn
  rw [w_args]
  congr 1
  funext ds r
  unfold wE
  cases m (List.zipWith (fun sh d => res sh d r) shs ds) <;> rfl
@[simp] theorem w_own1 {m : Fn} : wE (fOwn1 m fa rho) P = wE (fa rho) fun d r => wE (m [d]) fun z _ => P z r := by
  unfold fOwn1 wE
  cases fa rho with
  | error e => rfl
  | ok z =>
    obtain ⟨d, r⟩ := z
    simp only
    cases m [d] <;> rfl
@[simp] theorem w_chain : wE (fChain g g' fa fb fc rho) P = wE (fa rho) fun x r => wE (fb r) fun y r2 => wR (g x y) fun z => isB z fun b => (b = true → wE (fc r2) fun w r3 => wR (g' y w) fun u => P u r3) ∧ (b = false → P (.bl false) r2) := by
  unfold fChain
  simp only [w_un]
  congr 1
  funext x r
  congr 1
  funext y r2
  cases e : g x y with
  | error _ => rfl
  | ok z =>
    cases z with
    | bl b => cases b <;> simp [isB, w_lift]
    | _ => simp [isB, stuck]
@[simp] theorem w_sl00 : wE (fSl00 sa fa rho) P = wE (fa rho) fun d r => wR (dSl (res sa d r) none none) fun z => P z r := by
  unfold fSl00
  simp only [w_un, w_lift]
@[simp] theorem w_sl10 : wE (fSl10 sa fa fb rho) P = wE (fa rho) fun d r => wE (fb r) fun i r2 => isI i fun i => wR (dSl (res sa d r2) (some i) none) fun z => P z r2 := by
  unfold fSl10
  simp only [w_un]
  congr 1
  funext x r
  congr 1
  funext y r2
  cases y <;> simp [isI, stuck]
@[simp] theorem w_sl01 : wE (fSl01 sa fa fb rho) P = wE (fa rho) fun d r => wE (fb r) fun i r2 => isI i fun i => wR (dSl (res sa d r2) none (some i)) fun z => P z r2 := by
  unfold fSl01
  simp only [w_un]
  congr 1
  funext x r
  congr 1
  funext y r2
  cases y <;> simp [isI, stuck]
@[simp] theorem w_idx : wE (fIdx sa fa fb rho) P = wE (fa rho) fun d r => (res sa d r).isL = true ∧ wE (fb r) fun x r2 => wR (dIdx (res sa d r2) x) fun z => P z r2 := by
  unfold fIdx
  simp only [w_un]
  congr 1
  funext x r
  cases e : (res sa x r).isL <;> simp [stuck]
@[simp] theorem w_repL : wE (fRepL fa fb rho) P = wE (fa rho) fun d r => wE (fb r) fun k r2 => ∃ ds, d = .lst ds ∧ isI k fun k => (-9223372036854775808 ≤ k ∧ k < 9223372036854775808 ∧ ds.length * k.toNat ≤ 16777216) ∧ P (.lst (List.replicate k.toNat ds).flatten) r2 := by
  unfold fRepL
  unfold wE
  cases fa rho with
  | error e => rfl
  | ok z =>
    obtain ⟨d, r⟩ := z
    simp only
    cases fb r with
    | error e => rfl
    | ok z =>
      obtain ⟨k, r2⟩ := z
      cases d <;> cases k <;> simp [isI, stuck]
      rename_i ds k
      by_cases h : -9223372036854775808 ≤ k ∧ k < 9223372036854775808 ∧ ds.length * k.toNat ≤ 16777216
      · rw [if_pos h]
        simp [h]
      · rw [if_neg h]
        simp only [false_iff]
        exact fun z => h z.1
/-! tests -/
@[simp] theorem w_yes : wE (fYes rho) PT = PT true rho := rfl
@[simp] theorem w_test : wE (fTest fa asB rho) PT = wE (fa rho) fun d r => isB d fun b => PT b r := by
  unfold fTest wE
  cases fa rho with
  | error e => rfl
  | ok z =>
    obtain ⟨d, r⟩ := z
    cases d <;> rfl
@[simp] theorem w_andT : wE (fAndT cf cg rho) PT = wE (cf rho) fun b r => (b = true → wE (cg r) PT) ∧ (b = false → PT false r) := by
  unfold fAndT wE
  cases cf rho with
  | error e => rfl
  | ok z =>
    obtain ⟨b, r⟩ := z
    cases b <;> simp
@[simp] theorem w_orT : wE (fOrT cf cg rho) PT = wE (cf rho) fun b r => (b = true → PT true r) ∧ (b = false → wE (cg r) PT) := by
  unfold fOrT wE
  cases cf rho with
  | error e => rfl
  | ok z =>
    obtain ⟨b, r⟩ := z
    cases b <;> simp
@[simp] theorem w_notT : wE (fNotT cf rho) PT = wE (cf rho) fun b r => PT (!b) r := by
  unfold fNotT wE
  cases cf rho <;> rfl
/-! what is walked -/
@[simp] theorem w_seq : wE (fSeq fa rho) PA = wE (fa rho) fun d r => ∃ ds, d.seq = some ds ∧ PA ds r := by
  unfold fSeq wE
  cases fa rho with
  | error e => rfl
  | ok z =>
    obtain ⟨d, r⟩ := z
    simp only
    cases d.seq <;> simp [stuck]
@[simp] theorem w_rng1 : wE (fRng1 fs rho) PA = wE (fs rho) fun ds r => is1 ds fun x => isI x fun j => (-4611686018427387904 ≤ j ∧ j < 4611686018427387904) ∧ PA ((List.range j.toNat).map fun (k : Nat) => D.int k) r := by
  unfold fRng1
  cases fs rho with
  | error e => rfl
  | ok z =>
    obtain ⟨d, r⟩ := z
    simp only [wE_ok]
    match d with
    | [] => rfl
    | x :: _ :: _ => cases x <;> rfl
    | [x] =>
      cases x with
      | int j =>
        simp only [is1, isI]
        by_cases h : -4611686018427387904 ≤ j ∧ j < 4611686018427387904
        · rw [if_pos h]
          simp [h]
        · rw [if_neg h]
          simp only [wE_er, stuck, eq_iff_iff, false_iff]
          exact fun z => h z.1
      | _ => rfl
@[simp] theorem w_rng2 : wE (fRng2 fs rho) PA = wE (fs rho) fun ds r => is2 ds fun x y => isI x fun i => isI y fun j => ((-4611686018427387904 ≤ i ∧ i < 4611686018427387904) ∧ -4611686018427387904 ≤ j ∧ j < 4611686018427387904) ∧ PA ((List.range (j - i).toNat).map fun (k : Nat) => D.int (i + k)) r := by
  unfold fRng2
  cases fs rho with
  | error e => rfl
  | ok z =>
    obtain ⟨d, r⟩ := z
    simp only [wE_ok]
    match d with
    | [] => rfl
    | [x] => cases x <;> rfl
    | x :: y :: _ :: _ => cases x <;> cases y <;> rfl
    | [x, y] =>
      cases x with
      | int i =>
        cases y with
        | int j =>
          simp only [is2, isI]
          by_cases h : (-4611686018427387904 ≤ i ∧ i < 4611686018427387904) ∧ -4611686018427387904 ≤ j ∧ j < 4611686018427387904
          · rw [if_pos h]
            simp only [wE_ok, eq_iff_iff]
            exact ⟨fun z => ⟨h, z⟩, fun z => z.2⟩
          · rw [if_neg h]
            simp only [wE_er, stuck, eq_iff_iff, false_iff]
            exact fun z => h z.1
        | _ => rfl
      | _ => cases y <;> rfl
@[simp] theorem w_zip : wE (fZip fs rho) PA = wE (fs rho) fun ds r => is2 ds fun x y => isZ x y fun l => PA l r := by
  unfold fZip
  cases fs rho with
  | error e => rfl
  | ok z =>
    obtain ⟨d, r⟩ := z
    simp only [wE_ok]
    match d with
    | [] => rfl
    | [x] => cases x <;> rfl
    | x :: y :: _ :: _ => cases x <;> cases y <;> rfl
    | [x, y] => cases x <;> cases y <;> rfl
@[simp] theorem w_enum : wE (fEnum fa rho) PA = wE (fa rho) fun d r => ∃ ds, d = .lst ds ∧ PA (enumD 0 ds) r := by
  unfold fEnum
  cases fa rho with
  | error e => rfl
  | ok z =>
    obtain ⟨d, r⟩ := z
    cases d <;> simp [stuck]
/-! statements -/
variable {f h : Fst} {N : List D → Prop} {Q : D → List D → Prop} {Bk Ct : List D → Prop}
@[simp] theorem wS_seq : wS (sSeq f h rho) N Q Bk Ct = wS (f rho) (fun r => wS (h r) N Q Bk Ct) Q Bk Ct := by
  unfold sSeq wS
  cases f rho with
  | error e => rfl
  | ok z => cases z <;> rfl
@[simp] theorem wS_nil : wS (sNil rho) N Q Bk Ct = N rho := rfl
@[simp] theorem wS_bk : wS (sBk rho) N Q Bk Ct = Bk rho := rfl
@[simp] theorem wS_ct : wS (sCt rho) N Q Bk Ct = Ct rho := rfl
@[simp] theorem wS_ret : wS (sRet fa rho) N Q Bk Ct = wE (fa rho) Q := by
  unfold sRet wS wE
  cases fa rho <;> rfl
@[simp] theorem wS_expr : wS (sExpr fa rho) N Q Bk Ct = wE (fa rho) fun _ r => N r := by
  unfold sExpr wS wE
  cases fa rho <;> rfl
@[simp] theorem wS_set {i : Nat} : wS (sSet i fa rho) N Q Bk Ct = wE (fa rho) fun d r => N (r.set i d) := by
  unfold sSet wS wE
  cases fa rho <;> rfl
@[simp] theorem wS_unp {is : List Nat} : wS (sUnp is fa rho) N Q Bk Ct = wE (fa rho) fun d r => ∃ ds, d = .tup ds ∧ ds.length = is.length ∧ N (setAll r is ds) := by
  unfold sUnp wS wE
  cases fa rho with
  | error e => rfl
  | ok z =>
    obtain ⟨d, r⟩ := z
    cases d <;> simp [stuck]
    rename_i ds
    by_cases h : ds.length = is.length <;> simp [h]
@[simp] theorem wS_par {i j : Nat} : wS (sPar i j fs rho) N Q Bk Ct = wE (fs rho) fun ds r => is2 ds fun x y => N ((r.set i x).set j y) := by
  unfold sPar
  cases fs rho with
  | error e => rfl
  | ok z =>
    obtain ⟨d, r⟩ := z
    match d with
    | [] => rfl
    | [_] => rfl
    | [x, y] => rfl
    | _ :: _ :: _ :: _ => rfl
@[simp] theorem wS_setI {k : Nat} : wS (sSetI k fa fb rho) N Q Bk Ct = wE (fa rho) fun d r => wE (fb r) fun i r2 => isI i fun i => ∃ ds j, r2.getD k .non = .lst ds ∧ ixN ds.length i = some j ∧ N (r2.set k (.lst (ds.set j d))) := by
  unfold sSetI wS wE
  cases fa rho with
  | error e => rfl
  | ok z =>
    obtain ⟨d, r⟩ := z
    simp only
    cases fb r with
    | error e => rfl
    | ok z =>
      obtain ⟨i, r2⟩ := z
      simp only
      cases i with
      | int i =>
        cases e : r2.getD k .non with
        | lst ds =>
          simp only [isI]
          cases e2 : ixN ds.length i <;> simp [stuck, e2]
        | _ => simp [isI, stuck]
      | _ => simp [isI, stuck]
@[simp] theorem wS_app {k : Nat} : wS (sApp k fa rho) N Q Bk Ct = wE (fa rho) fun d r => ∃ ds, r.getD k .non = .lst ds ∧ ds.length < 16777216 ∧ N (r.set k (.lst (ds ++ [d]))) := by
  unfold sApp wS wE
  cases fa rho with
  | error e => rfl
  | ok z =>
    obtain ⟨d, r⟩ := z
    simp only
    cases e : r.getD k .non with
    | lst ds =>
      simp only
      by_cases h : ds.length < 16777216 <;> simp [h, stuck]
    | _ => simp [stuck]
@[simp] theorem wS_aug {i : Nat} {k : Int → Int → Int} : wS (sAugI i k fa rho) N Q Bk Ct = isI (rho.getD i .non) fun x => wE (fa rho) fun d r => isI d fun y => N (r.set i (.int (k x y))) := by
  unfold sAugI
  cases e : rho.getD i .non with
  | int x =>
    simp only [isI]
    unfold wS wE
    cases fa rho with
    | error e => rfl
    | ok z =>
      obtain ⟨d, r⟩ := z
      cases d <;> rfl
  | _ => simp [isI, stuck, wS]
@[simp] theorem wS_if : wS (sIf cf f h rho) N Q Bk Ct = wE (cf rho) fun b r => (b = true → wS (f r) N Q Bk Ct) ∧ (b = false → wS (h r) N Q Bk Ct) := by
  unfold sIf wS wE
  cases cf rho with
  | error e => rfl
  | ok z =>
    obtain ⟨b, r⟩ := z
    cases b <;> simp
@[simp] theorem wS_for {fi : Fs} {t : Ft} : wS (sFor fi t f rho) N Q Bk Ct = wE (fi rho) fun ds r => wS (floop t f ds r) N Q Bk Ct := by
  unfold sFor wE
  cases fi rho <;> rfl
@[simp] theorem wE_comp {fi : Fs} {t : Ft} : wE (fComp fi t cf fa rho) P = wE (fi rho) fun ds r => wE (cloop t cf fa ds [] r) P := by
  unfold fComp wE
  cases fi rho <;> rfl
/-- a def -/
theorem w_runS {k : Nat} {ds : List D} (h : wS (f (ds ++ List.replicate k .non)) (fun r => P .non r) P (fun _ => False) (fun _ => False)) : wE (runB .s f k ds) P := by
  unfold runB
  unfold wS at h
  split at h
  all_goals first
    | exact h.elim
    | (rename_i e; rw [e]; exact h)
theorem w_run {k : Nat} {ds : List D} {rs : Sh} (h : wS (f (ds ++ List.replicate k .non)) (fun r => False) P (fun _ => False) (fun _ => False)) : wE (runB rs f k ds) P := by
  unfold runB
  unfold wS at h
  split at h
  all_goals first
    | exact h.elim
    | (rename_i e; rw [e]; exact h)
/-! ### loops -/
theorem floop_inv {t : Ft} (I : Nat → List D → Prop) : ∀ {ds : List D} {rho : List D} (n : Nat), I n rho →
    (∀ k d r, ds[k]? = some d → I (n + k) r → wR (t d r) fun r1 => wS (f r1) (fun r2 => I (n + k + 1) r2) Q N (fun r2 => I (n + k + 1) r2)) → (∀ r, I (n + ds.length) r → N r) → wS (floop t f ds rho) N Q Bk Ct
  | [], rho, n, h, _, e => e rho h
  | d :: ds, rho, n, h, st, e => by
    have s0 := st 0 d rho rfl h
    unfold floop
    cases e1 : t d rho with
    | error _ => rw [e1] at s0; exact s0.elim
    | ok r1 =>
      rw [e1] at s0
      simp only [wR_ok] at s0
      have go : ∀ r2, I (n + 0 + 1) r2 → wS (floop t f ds r2) N Q Bk Ct := fun r2 h2 => floop_inv I (n + 1) h2 (fun k x r hx hi => by
        have := st (k + 1) x r (by simpa using hx) (by rw [show n + (k + 1) = n + 1 + k by omega]; exact hi)
        rw [show n + (k + 1) = n + 1 + k by omega] at this
        exact this) fun r hr => e r (by rw [List.length_cons, show n + (ds.length + 1) = n + 1 + ds.length by omega]; exact hr)
      simp only
      cases e2 : f r1 with
      | error _ => rw [e2] at s0; exact s0.elim
      | ok z =>
        rw [e2] at s0
        cases z with
        | nx r => exact go r s0
        | ct r => exact go r s0
        | bk r => exact s0
        | rt d r => exact s0
theorem for_inv {t : Ft} (I : Nat → List D → Prop) {ds : List D} (h : I 0 rho) (st : ∀ k d r, ds[k]? = some d → I k r → wR (t d r) fun r1 => wS (f r1) (fun r2 => I (k + 1) r2) Q N (fun r2 => I (k + 1) r2)) (e : ∀ r, I ds.length r → N r) : wS (floop t f ds rho) N Q Bk Ct :=
  floop_inv I 0 h (fun k d r hd hi => by rw [Nat.zero_add] at hi ⊢; exact st k d r hd hi) fun r hr => e r (by rwa [Nat.zero_add] at hr)
/-- over range(n) -/
theorem forR_inv {i n : Nat} (I : Nat → List D → Prop) (h : I 0 rho) (st : ∀ k r, k < n → I k r → wS (f (r.set i (.int (k : Nat)))) (fun r2 => I (k + 1) r2) Q N (fun r2 => I (k + 1) r2)) (e : ∀ r, I n r → N r) : wS (floop (tName i) f ((List.range n).map fun (k : Nat) => D.int k) rho) N Q Bk Ct :=
  for_inv I h (fun k d r hd hi => by
    have hk : k < n := by
      have := (List.getElem?_eq_some_iff.mp hd).1
      simpa using this
    have : d = .int k := by simpa [hk] using hd.symm
    subst this
    exact st k r hk hi) fun r hr => e r (by simpa using hr)
theorem wloop_inv (I : List D → Prop) (M : List D → Nat) : ∀ (n : Nat) {rho : List D}, I rho → M rho < n →
    (∀ r, I r → wE (cf r) fun b r1 => (b = true → wS (f r1) (fun r2 => I r2 ∧ M r2 < M r) Q N (fun r2 => I r2 ∧ M r2 < M r)) ∧ (b = false → N r1)) → wS (wloop cf f n rho) N Q Bk Ct
  | 0, rho, _, h, _ => absurd h (Nat.not_lt_zero _)
  | n + 1, rho, hi, hm, st => by
    have s0 := st rho hi
    unfold wloop
    cases e1 : cf rho with
    | error _ => rw [e1] at s0; exact s0.elim
    | ok z =>
      obtain ⟨b, r1⟩ := z
      rw [e1] at s0
      simp only [wE_ok] at s0
      cases b with
      | false => exact s0.2 rfl
      | true =>
        have s1 := s0.1 rfl
        simp only [if_true]
        cases e2 : f r1 with
        | error _ => rw [e2] at s1; exact s1.elim
        | ok z =>
          rw [e2] at s1
          cases z with
          | nx r => exact wloop_inv I M n s1.1 (by have := s1.2; omega) st
          | ct r => exact wloop_inv I M n s1.1 (by have := s1.2; omega) st
          | bk r => exact s1
          | rt d r => exact s1
theorem while_inv (I : List D → Prop) (M : List D → Nat) (h : I rho) (hm : M rho < 1000000000)
    (st : ∀ r, I r → wE (cf r) fun b r1 => (b = true → wS (f r1) (fun r2 => I r2 ∧ M r2 < M r) Q N (fun r2 => I r2 ∧ M r2 < M r)) ∧ (b = false → N r1)) : wS (sWhile cf f rho) N Q Bk Ct :=
  wloop_inv I M wfuel h hm st
theorem comp_inv {t : Ft} (I : Nat → List D → List D → Prop) : ∀ {ds : List D} {acc rho : List D} (n : Nat), I n acc rho →
    (∀ k d acc r, ds[k]? = some d → I (n + k) acc r → wR (t d r) fun r1 => wE (cf r1) fun b r2 => (b = true → wE (fa r2) fun y r3 => acc.length < 16777216 ∧ I (n + k + 1) (acc ++ [y]) r3) ∧ (b = false → I (n + k + 1) acc r2)) →
    (∀ acc r, I (n + ds.length) acc r → P (.lst acc) r) → wE (cloop t cf fa ds acc rho) P
  | [], acc, rho, n, h, _, e => e acc rho h
  | d :: ds, acc, rho, n, h, st, e => by
    have s0 := st 0 d acc rho rfl h
    have go : ∀ acc r2, I (n + 0 + 1) acc r2 → wE (cloop t cf fa ds acc r2) P := fun acc r2 h2 => comp_inv I (n + 1) h2 (fun k x acc r hx hi => by
        have := st (k + 1) x acc r (by simpa using hx) (by rw [show n + (k + 1) = n + 1 + k by omega]; exact hi)
        rw [show n + (k + 1) = n + 1 + k by omega] at this
        exact this) fun acc r hr => e acc r (by rw [List.length_cons, show n + (ds.length + 1) = n + 1 + ds.length by omega]; exact hr)
    unfold cloop
    cases e1 : t d rho with
    | error _ => rw [e1] at s0; exact s0.elim
    | ok r1 =>
      rw [e1] at s0
      simp only [wR_ok] at s0
      cases e2 : cf r1 with
      | error _ => rw [e2] at s0; exact s0.elim
      | ok z =>
        obtain ⟨b, r2⟩ := z
        rw [e2] at s0
        simp only [wE_ok] at s0
        cases b with
        | false =>
          simp only [e2, Bool.false_eq_true, if_false]
          exact go acc r2 (s0.2 rfl)
        | true =>
          have s1 := s0.1 rfl
          simp only [e2, if_true]
          cases e3 : fa r2 with
          | error _ => rw [e3] at s1; exact s1.elim
          | ok z =>
            obtain ⟨y, r3⟩ := z
            rw [e3] at s1
            simp only [wE_ok] at s1
            simp only [s1.1, if_true]
            exact go _ r3 s1.2
/-- a comprehension that keeps all, each item by itself: the names but the target's stay -/
theorem comp_map {i : Nat} {ds : List D} {F : D → D} (hi : i < rho.length) (hl : ds.length ≤ 16777216) (st : ∀ d ∈ ds, ∀ x, wE (fa ((rho.set i x).set i d)) fun y r => y = F d ∧ r = (rho.set i x).set i d)
    (e : ∀ x, P (.lst (ds.map F)) (rho.set i x)) : wE (cloop (tName i) fYes fa ds [] rho) P := by
  refine comp_inv (I := fun n acc r => acc = (ds.take n).map F ∧ ∃ x, r = rho.set i x) 0 ⟨by simp, rho[i], by simp⟩ ?_ ?_
  · rintro k d acc r hd ⟨h1, x, rfl⟩
    rw [Nat.zero_add] at h1 ⊢
    subst h1
    simp only [tName, wR_ok, w_yes, true_imp_iff]
    have hk := (List.getElem?_eq_some_iff.mp hd).1
    refine ⟨(st d (List.mem_of_getElem? hd) x).mono ?_, fun h => (nomatch h)⟩
    rintro y r ⟨rfl, rfl⟩
    refine ⟨by rw [List.length_map, List.length_take]; omega, ?_, d, by rw [List.set_set]⟩
    rw [List.take_succ, hd]
    simp
  · rintro acc r ⟨h1, x, rfl⟩
    rw [Nat.zero_add, List.take_length] at h1
    subst h1
    exact e x
end
/-! ### data -/
@[simp] theorem res_s {d : D} {rho : List D} : res .s d rho = d := rfl
@[simp] theorem res_l {d : D} {rho : List D} {sh : Sh} : res (.l sh) d rho = d := rfl
@[simp] theorem res_b {d : D} {rho : List D} {i : Nat} : res (.b i) d rho = rho.getD i .non := rfl
@[simp] theorem backD_nil {out rho : List D} : backD out rho [] = rho := rfl
@[simp] theorem backD_cons {out rho : List D} {j i : Nat} {ow : List (Nat × Nat)} : backD out rho ((j, i) :: ow) = backD out (rho.set i (out.getD j .non)) ow := rfl
@[simp] theorem setAll_nil {rho ds : List D} : setAll rho [] ds = rho := by cases ds <;> rfl
@[simp] theorem setAll_cons {rho ds : List D} {d : D} {i : Nat} {is : List Nat} : setAll rho (i :: is) (d :: ds) = setAll (rho.set i d) is ds := rfl
@[simp] theorem dSub_i {i j : Int} : dSub (.int i) (.int j) = .ok (.int (i - j)) := rfl
@[simp] theorem dAdd_i {i j : Int} : dAdd (.int i) (.int j) = .ok (.int (i + j)) := rfl
@[simp] theorem dLt_i {i j : Int} : dLt (.int i) (.int j) = .ok (.bl (decide (i < j))) := rfl
@[simp] theorem dLe_i {i j : Int} : dLe (.int i) (.int j) = .ok (.bl (decide (i ≤ j))) := rfl
@[simp] theorem dGt_i {i j : Int} : dGt (.int i) (.int j) = .ok (.bl (decide (j < i))) := rfl
@[simp] theorem dGe_i {i j : Int} : dGe (.int i) (.int j) = .ok (.bl (decide (j ≤ i))) := rfl
@[simp] theorem dNeg_i {i : Int} : dNeg (.int i) = .ok (.int (-i)) := rfl
@[simp] theorem dMod_i {i j : Int} {P : D → Prop} : wR (dMod (.int i) (.int j)) P = (0 < j ∧ P (.int (i % j))) := by
  unfold dMod
  by_cases h : 0 < j <;> simp [h, stuck]
@[simp] theorem dFdiv_i {i j : Int} {P : D → Prop} : wR (dFdiv (.int i) (.int j)) P = ((0 < j ∧ j.natAbs.log2 < 9000) ∧ P (.int (i / j))) := by
  unfold dFdiv
  by_cases h : 0 < j ∧ j.natAbs.log2 < 9000 <;> simp [h, stuck]
@[simp] theorem dMul_i {i j : Int} {P : D → Prop} : wR (dMul (.int i) (.int j)) P = (Builtin.Int.intBits i + Builtin.Int.intBits j ≤ 134217728 ∧ P (.int (i * j))) := by
  unfold dMul
  by_cases h : Builtin.Int.intBits i + Builtin.Int.intBits j ≤ 134217728 <;> simp [h, stuck]
@[simp] theorem dPow_i {i j : Int} {P : D → Prop} : wR (dPow (.int i) (.int j)) P = ((0 ≤ j ∧ (Builtin.Int.intBits i : Int) * j ≤ 134217728) ∧ P (.int (i ^ j.toNat))) := by
  unfold dPow
  by_cases h : 0 ≤ j ∧ (Builtin.Int.intBits i : Int) * j ≤ 134217728 <;> simp [h, stuck]
@[simp] theorem dMax2_i {i j : Int} : dMax2 [.int i, .int j] = .ok (.int (max i j)) := rfl
@[simp] theorem dMin2_i {i j : Int} : dMin2 [.int i, .int j] = .ok (.int (min i j)) := rfl
@[simp] theorem dIs_non {d : D} : dIs d .non = .ok (.bl d.isN) := rfl
@[simp] theorem dIsNot_non {d : D} : dIsNot d .non = .ok (.bl (!d.isN)) := rfl
@[simp] theorem isN_non : D.isN .non = true := rfl
@[simp] theorem isN_int {i : Int} : D.isN (.int i) = false := rfl
@[simp] theorem isN_bl {i : Bool} : D.isN (.bl i) = false := rfl
@[simp] theorem isN_tup {i : List D} : D.isN (.tup i) = false := rfl
@[simp] theorem isN_lst {i : List D} : D.isN (.lst i) = false := rfl
@[simp] theorem dLen_l {ds : List D} : dLen [.lst ds] = .ok (.int ds.length) := rfl
@[simp] theorem dLen_t {ds : List D} : dLen [.tup ds] = .ok (.int ds.length) := rfl
@[simp] theorem seq_l {ds : List D} : D.seq (.lst ds) = some ds := rfl
@[simp] theorem seq_t {ds : List D} : D.seq (.tup ds) = some ds := rfl
theorem dIx_nat {d x : D} {ds : List D} {k : Nat} (h : d.seq = some ds) (hx : ds[k]? = some x) : dIx d (.int (k : Nat)) = .ok x := by
  unfold dIx
  have hk := (List.getElem?_eq_some_iff.mp hx).1
  simp only [h, atI, ixN]
  rw [if_pos (by omega), if_pos (by omega)]
  simp [hx]
@[simp] theorem dIx_0 {d : D} {ds : List D} : dIx (.lst (d :: ds)) (.int 0) = .ok d := dIx_nat (k := 0) rfl rfl
@[simp] theorem dIx_1 {d e : D} {ds : List D} : dIx (.lst (e :: d :: ds)) (.int 1) = .ok d := dIx_nat (k := 1) rfl rfl
@[simp] theorem dIx_2 {d e c : D} {ds : List D} : dIx (.lst (c :: e :: d :: ds)) (.int 2) = .ok d := dIx_nat (k := 2) rfl rfl
@[simp] theorem dIx_t0 {d : D} {ds : List D} : dIx (.tup (d :: ds)) (.int 0) = .ok d := dIx_nat (k := 0) rfl rfl
@[simp] theorem dIx_t1 {d e : D} {ds : List D} : dIx (.tup (e :: d :: ds)) (.int 1) = .ok d := dIx_nat (k := 1) rfl rfl
@[simp] theorem dIx_t2 {d e c : D} {ds : List D} : dIx (.tup (c :: e :: d :: ds)) (.int 2) = .ok d := dIx_nat (k := 2) rfl rfl
theorem ixN_nat {n k : Nat} (h : k < n) : ixN n (k : Int) = some k := by
  unfold ixN
  rw [if_pos (by omega), if_pos (by omega)]
  simp
end EB
namespace EB
open PySem L2
/-! ### == by data -/
mutual
def D.eq : D → D → Bool
  | .non, .non => true
  | .bl a, .bl b => a == b
  | .bl a, .int j => (if a then 1 else 0) == j
  | .int i, .bl b => i == (if b then 1 else 0)
  | .int i, .int j => decide (i = j)
  | .str x, .str y => x == y
  | .tup xs, .tup ys => D.eqs xs ys
  | .lst xs, .lst ys => D.eqs xs ys
  | _, _ => false
def D.eqs : List D → List D → Bool
  | [], [] => true
  | x :: xs, y :: ys => D.eq x y && D.eqs xs ys
  | _, _ => false
end
/-- plain data, at most n deep -/
def PlN : Nat → D → Prop
  | 0, d => match d with
    | .non => True
    | .bl _ => True
    | .int _ => True
    | .str x => PyData.canLay0 (.str x) = true
    | _ => False
  | n + 1, d => match d with
    | .non => True
    | .bl _ => True
    | .int _ => True
    | .str x => PyData.canLay0 (.str x) = true
    | .tup ds => ∀ e ∈ ds, PlN n e
    | .lst ds => ∀ e ∈ ds, PlN n e
    | _ => False
@[simp] theorem PlN_non {n : Nat} : PlN n .non = True := by cases n <;> rfl
@[simp] theorem PlN_bl {n : Nat} {b : Bool} : PlN n (.bl b) = True := by cases n <;> rfl
@[simp] theorem PlN_int {n : Nat} {b : Int} : PlN n (.int b) = True := by cases n <;> rfl
@[simp] theorem PlN_tup {n : Nat} {ds : List D} : PlN (n + 1) (.tup ds) = ∀ e ∈ ds, PlN n e := rfl
@[simp] theorem PlN_lst {n : Nat} {ds : List D} : PlN (n + 1) (.lst ds) = ∀ e ∈ ds, PlN n e := rfl
theorem PlN_str {n : Nat} {x : Str} : PlN n (.str x) = (PyData.canLay0 (.str x) = true) := by cases n <;> rfl
theorem PlN.up : ∀ {n : Nat} {d : D}, PlN n d → PlN (n + 1) d
  | 0, d, h => by cases d <;> simp_all [PlN]
  | n + 1, d, h => by
    cases d with
    | tup ds => exact fun e he => PlN.up (h e he)
    | lst ds => exact fun e he => PlN.up (h e he)
    | _ => simp_all [PlN]
theorem PlN.le {n m : Nat} {d : D} (h : PlN n d) (k : n ≤ m) : PlN m d := by
  obtain ⟨j, rfl⟩ := Nat.exists_eq_add_of_le k
  induction j with
  | zero => exact h
  | succ j ih => exact (ih (by omega)).up
theorem PlN.pys : ∀ {n : Nat} {ds : List D}, (∀ d ∈ ds, ∃ p, d.py = some p ∧ p.canLay0 = true ∧ p.depth ≤ n) → ∃ ps, D.pys ds = some ps ∧ PyData.canLayAll0 ps = true ∧ PyData.depthAll ps ≤ n
  | n, [], _ => ⟨[], rfl, by simp [PyData.canLayAll0], by simp [PyData.depthAll]⟩
  | n, d :: ds, h => by
    obtain ⟨p, e1, e2, e3⟩ := h d List.mem_cons_self
    obtain ⟨ps, f1, f2, f3⟩ := PlN.pys (ds := ds) fun x hx => h x (List.mem_cons_of_mem _ hx)
    refine ⟨p :: ps, by simp [D.pys, e1, f1], by simp [PyData.canLayAll0, e2, f2], ?_⟩
    simp only [PyData.depthAll]
    omega
theorem PlN.py : ∀ {n : Nat} {d : D}, PlN n d → ∃ p, d.py = some p ∧ p.canLay0 = true ∧ p.depth ≤ n
  | 0, d, h => by
    cases d <;> simp_all [PlN, D.py, PyData.canLay0, PyData.depth]
  | n + 1, d, h => by
    cases d with
    | tup ds =>
      obtain ⟨ps, f1, f2, f3⟩ := PlN.pys fun x hx => PlN.py (h x hx)
      exact ⟨.tuple ps, by simp [D.py, f1], by simp [PyData.canLay0, f2], by simp only [PyData.depth]; omega⟩
    | lst ds =>
      obtain ⟨ps, f1, f2, f3⟩ := PlN.pys fun x hx => PlN.py (h x hx)
      exact ⟨.list ps, by simp [D.py, f1], by simp [PyData.canLay0, f2], by simp only [PyData.depth]; omega⟩
    | _ => simp_all [PlN, D.py, PyData.canLay0, PyData.depth]
mutual
theorem D.eq_py : ∀ {x y : D} {p q : PyData}, x.py = some p → y.py = some q → PyData.eqv p q = D.eq x y
  | .tup xs, .tup ys, p, q, hp, hq => by
    simp only [D.py, Option.map_eq_some_iff] at hp hq
    obtain ⟨ps, e1, rfl⟩ := hp
    obtain ⟨qs, e2, rfl⟩ := hq
    simp only [PyData.eqv, D.eq]
    exact D.eqs_py e1 e2
  | .lst xs, .lst ys, p, q, hp, hq => by
    simp only [D.py, Option.map_eq_some_iff] at hp hq
    obtain ⟨ps, e1, rfl⟩ := hp
    obtain ⟨qs, e2, rfl⟩ := hq
    simp only [PyData.eqv, D.eq]
    exact D.eqs_py e1 e2
  | .non, y, p, q, hp, hq => by
    cases y <;> simp only [D.py, Option.map_eq_some_iff, Option.some.injEq, reduceCtorEq] at hp hq <;> first | (subst hp hq; simp only [PyData.eqv, D.eq]) | (obtain ⟨_, _, rfl⟩ := hq; subst hp; simp only [PyData.eqv, D.eq])
  | .bl _, y, p, q, hp, hq => by
    cases y <;> simp only [D.py, Option.map_eq_some_iff, Option.some.injEq, reduceCtorEq] at hp hq <;> first | (subst hp hq; simp only [PyData.eqv, D.eq]) | (obtain ⟨_, _, rfl⟩ := hq; subst hp; simp only [PyData.eqv, D.eq])
  | .int i, y, p, q, hp, hq => by
    cases y <;> simp only [D.py, Option.map_eq_some_iff, Option.some.injEq, reduceCtorEq] at hp hq <;> first | (subst hp hq; simp only [PyData.eqv, D.eq]; try rfl) | (obtain ⟨_, _, rfl⟩ := hq; subst hp; simp only [PyData.eqv, D.eq])
  | .str _, y, p, q, hp, hq => by
    cases y <;> simp only [D.py, Option.map_eq_some_iff, Option.some.injEq, reduceCtorEq] at hp hq <;> first | (subst hp hq; simp only [PyData.eqv, D.eq]) | (obtain ⟨_, _, rfl⟩ := hq; subst hp; simp only [PyData.eqv, D.eq])
  | .tup xs, y, p, q, hp, hq => by
    cases y with
    | tup ys =>
      simp only [D.py, Option.map_eq_some_iff] at hp hq
      obtain ⟨ps, e1, rfl⟩ := hp
      obtain ⟨qs, e2, rfl⟩ := hq
      simp only [PyData.eqv, D.eq]
      exact D.eqs_py e1 e2
    | _ =>
      simp only [D.py, Option.map_eq_some_iff, Option.some.injEq, reduceCtorEq] at hp hq <;> first | (obtain ⟨_, _, rfl⟩ := hp; subst hq; simp only [PyData.eqv, D.eq]) | (obtain ⟨_, _, rfl⟩ := hq; obtain ⟨_, _, rfl⟩ := hp; simp only [PyData.eqv, D.eq])
  | .lst xs, y, p, q, hp, hq => by
    cases y with
    | lst ys =>
      simp only [D.py, Option.map_eq_some_iff] at hp hq
      obtain ⟨ps, e1, rfl⟩ := hp
      obtain ⟨qs, e2, rfl⟩ := hq
      simp only [PyData.eqv, D.eq]
      exact D.eqs_py e1 e2
    | _ =>
      simp only [D.py, Option.map_eq_some_iff, Option.some.injEq, reduceCtorEq] at hp hq <;> first | (obtain ⟨_, _, rfl⟩ := hp; subst hq; simp only [PyData.eqv, D.eq]) | (obtain ⟨_, _, rfl⟩ := hq; obtain ⟨_, _, rfl⟩ := hp; simp only [PyData.eqv, D.eq])
  | .dct _ _, _, _, _, hp, _ => by simp [D.py] at hp
  | .ins _ _ _, _, _, _, hp, _ => by simp [D.py] at hp
theorem D.eqs_py : ∀ {x y : List D} {p q : List PyData}, D.pys x = some p → D.pys y = some q → PyData.eqvAll p q = D.eqs x y
  | [], [], _, _, hp, hq => by
    cases hp
    cases hq
    simp [PyData.eqvAll, D.eqs]
  | [], y :: ys, _, _, hp, hq => by
    cases hp
    simp only [D.pys] at hq
    split at hq
    · cases hq
      simp [PyData.eqvAll, D.eqs]
    · cases hq
  | x :: xs, [], _, _, hp, hq => by
    cases hq
    simp only [D.pys] at hp
    split at hp
    · cases hp
      simp [PyData.eqvAll, D.eqs]
    · cases hp
  | x :: xs, y :: ys, _, _, hp, hq => by
    simp only [D.pys] at hp hq
    split at hp
    · rename_i p ps e1 e2
      cases hp
      split at hq
      · rename_i q qs f1 f2
        cases hq
        simp only [PyData.eqvAll, D.eqs, D.eq_py e1 f1, D.eqs_py e2 f2]
      · cases hq
    · cases hp
end
theorem dEqB_pl {x y : D} (hx : PlN 64 x) (hy : PlN 64 y) : dEqB x y = some (D.eq x y) := by
  obtain ⟨p, e1, e2, e3⟩ := hx.py
  obtain ⟨q, f1, f2, f3⟩ := hy.py
  unfold dEqB
  rw [e1, f1]
  simp only
  rw [if_pos ⟨by simp [SeqAt.shaped, e2, e3], by simp [SeqAt.shaped, f2, f3]⟩, D.eq_py e1 f1]
theorem dEq_pl {x y : D} (hx : PlN 64 x) (hy : PlN 64 y) : dEq x y = .ok (.bl (D.eq x y)) := by
  unfold dEq
  rw [dEqB_pl hx hy]
theorem dNe_pl {x y : D} (hx : PlN 64 x) (hy : PlN 64 y) : dNe x y = .ok (.bl (!D.eq x y)) := by
  unfold dNe
  rw [dEqB_pl hx hy]
@[simp] theorem dEq_i {i j : Int} : dEq (.int i) (.int j) = .ok (.bl (decide (i = j))) := by
  rw [dEq_pl (by simp) (by simp)]
  simp [D.eq]
@[simp] theorem dNe_i {i j : Int} : dNe (.int i) (.int j) = .ok (.bl (!decide (i = j))) := by
  rw [dNe_pl (by simp) (by simp)]
  simp [D.eq]
theorem eqs_any {x : D} {p : PyData} (hx : x.py = some p) : ∀ {ds : List D} {ps : List PyData}, D.pys ds = some ps → (ps.any fun z => PyData.eqv z p) = ds.any fun z => D.eq z x
  | [], _, h => by
    cases h
    rfl
  | d :: ds, _, h => by
    simp only [D.pys] at h
    split at h
    · rename_i q qs f1 f2
      cases h
      simp only [List.any_cons, D.eq_py f1 hx, eqs_any hx f2]
    · cases h
theorem dInB_pl {x : D} {ds : List D} (hx : PlN 64 x) (hy : PlN 64 (.lst ds)) : dInB x (.lst ds) = some (ds.any fun z => D.eq z x) := by
  obtain ⟨p, e1, e2, e3⟩ := hx.py
  obtain ⟨q, f1, f2, f3⟩ := hy.py
  simp only [D.py, Option.map_eq_some_iff] at f1
  obtain ⟨ps, g1, rfl⟩ := f1
  unfold dInB
  simp only [e1, g1]
  rw [if_pos ⟨by simp [SeqAt.shaped, e2, e3], by simp [SeqAt.shaped, f2, f3]⟩, eqs_any e1 g1]
theorem dIn_pl {x : D} {ds : List D} (hx : PlN 64 x) (hy : PlN 64 (.lst ds)) : dIn x (.lst ds) = .ok (.bl (ds.any fun z => D.eq z x)) := by
  unfold dIn
  rw [dInB_pl hx hy]
theorem dNotIn_pl {x : D} {ds : List D} (hx : PlN 64 x) (hy : PlN 64 (.lst ds)) : dNotIn x (.lst ds) = .ok (.bl (!ds.any fun z => D.eq z x)) := by
  unfold dNotIn
  rw [dInB_pl hx hy]
def D.idx (x : D) : List D → Option Nat
  | [] => none
  | q :: qs => if D.eq q x then some 0 else (D.idx x qs).map (· + 1)
theorem idx_py {x : D} {p : PyData} (hx : x.py = some p) : ∀ {ds : List D} {ps : List PyData}, D.pys ds = some ps → pyIdx p ps = D.idx x ds
  | [], _, h => by
    cases h
    rfl
  | d :: ds, _, h => by
    simp only [D.pys] at h
    split at h
    · rename_i q qs f1 f2
      cases h
      simp only [pyIdx, D.idx, D.eq_py f1 hx, idx_py hx f2]
    · cases h
theorem dIdx_pl {x : D} {ds : List D} {j : Nat} (hx : PlN 64 x) (hy : PlN 64 (.lst ds)) (h : D.idx x ds = some j) : dIdx (.lst ds) x = .ok (.int (j : Nat)) := by
  obtain ⟨p, e1, e2, e3⟩ := hx.py
  obtain ⟨q, f1, f2, f3⟩ := hy.py
  simp only [D.py, Option.map_eq_some_iff] at f1
  obtain ⟨ps, g1, rfl⟩ := f1
  unfold dIdx
  simp only [e1, g1]
  rw [if_pos ⟨by simp [SeqAt.shaped, f2, f3], by simp [SeqAt.shaped, e2, e3]⟩, idx_py e1 g1, h]
/-! alike is the same, where there are no truths -/
def NoB : Nat → D → Prop
  | 0, d => match d with
    | .non => True
    | .int _ => True
    | .str _ => True
    | _ => False
  | n + 1, d => match d with
    | .non => True
    | .int _ => True
    | .str _ => True
    | .tup ds => ∀ e ∈ ds, NoB n e
    | .lst ds => ∀ e ∈ ds, NoB n e
    | _ => False
theorem eqs_iff {R : D → Prop} (h : ∀ x, R x → ∀ y, R y → (D.eq x y = true ↔ x = y)) : ∀ {xs ys : List D}, (∀ x ∈ xs, R x) → (∀ y ∈ ys, R y) → (D.eqs xs ys = true ↔ xs = ys)
  | [], [], _, _ => by simp [D.eqs]
  | [], _ :: _, _, _ => by simp [D.eqs]
  | _ :: _, [], _, _ => by simp [D.eqs]
  | x :: xs, y :: ys, hx, hy => by
    simp only [D.eqs, Bool.and_eq_true, List.cons.injEq]
    rw [h x (hx x List.mem_cons_self) y (hy y List.mem_cons_self), eqs_iff h (fun z hz => hx z (List.mem_cons_of_mem _ hz)) fun z hz => hy z (List.mem_cons_of_mem _ hz)]
theorem NoB.iff : ∀ {n : Nat} {x y : D}, NoB n x → NoB n y → (D.eq x y = true ↔ x = y)
  | 0, x, y, hx, hy => by
    cases x <;> cases y <;> simp_all [NoB, D.eq]
  | n + 1, x, y, hx, hy => by
    cases x with
    | tup xs =>
      cases y with
      | tup ys =>
        simp only [D.eq, D.tup.injEq]
        exact eqs_iff (R := NoB n) (fun x hx y hy => NoB.iff hx hy) hx hy
      | _ => simp_all [NoB, D.eq]
    | lst xs =>
      cases y with
      | lst ys =>
        simp only [D.eq, D.lst.injEq]
        exact eqs_iff (R := NoB n) (fun x hx y hy => NoB.iff hx hy) hx hy
      | _ => simp_all [NoB, D.eq]
    | _ => cases y <;> simp_all [NoB, D.eq]
theorem D.eqs_refl {R : D → Prop} (h : ∀ x, R x → D.eq x x = true) : ∀ {xs : List D}, (∀ x ∈ xs, R x) → D.eqs xs xs = true
  | [], _ => rfl
  | x :: xs, hx => by simp [D.eqs, h x (hx x List.mem_cons_self), D.eqs_refl h fun z hz => hx z (List.mem_cons_of_mem _ hz)]
theorem PlN.refl : ∀ {n : Nat} {x : D}, PlN n x → D.eq x x = true
  | 0, x, h => by cases x <;> simp_all [PlN, D.eq]
  | n + 1, x, h => by
    cases x with
    | tup xs =>
      simp only [D.eq]
      exact D.eqs_refl (R := PlN n) (fun x hx => PlN.refl hx) h
    | lst xs =>
      simp only [D.eq]
      exact D.eqs_refl (R := PlN n) (fun x hx => PlN.refl hx) h
    | _ => simp_all [PlN, D.eq]
@[simp] theorem eq_ii {i j : Int} : D.eq (.int i) (.int j) = decide (i = j) := by simp [D.eq]
@[simp] theorem eq_bb {i j : Bool} : D.eq (.bl i) (.bl j) = (i == j) := by simp [D.eq]
@[simp] theorem eq_tt {i j : List D} : D.eq (.tup i) (.tup j) = D.eqs i j := by simp [D.eq]
@[simp] theorem eq_ll {i j : List D} : D.eq (.lst i) (.lst j) = D.eqs i j := by simp [D.eq]
@[simp] theorem eq_nn : D.eq .non .non = true := by simp [D.eq]
@[simp] theorem eqs_nil : D.eqs [] [] = true := by simp [D.eqs]
@[simp] theorem eqs_cons {x y : D} {xs ys : List D} : D.eqs (x :: xs) (y :: ys) = (D.eq x y && D.eqs xs ys) := by simp [D.eqs]
@[simp] theorem eqs_nc {y : D} {ys : List D} : D.eqs [] (y :: ys) = false := by simp [D.eqs]
@[simp] theorem eqs_cn {y : D} {ys : List D} : D.eqs (y :: ys) [] = false := by simp [D.eqs]
@[simp] theorem dEq_bb {i j : Bool} : dEq (.bl i) (.bl j) = .ok (.bl (i == j)) := by
  rw [dEq_pl (by simp) (by simp)]
  simp
@[simp] theorem dNe_bb {i j : Bool} : dNe (.bl i) (.bl j) = .ok (.bl (i != j)) := by
  rw [dNe_pl (by simp) (by simp)]
  simp [bne]
/-! ### kinds, sums -/
@[simp] theorem isi_int_i {i : Int} : dIsi .int (.int i) = .ok (.bl true) := rfl
@[simp] theorem isi_int_b {i : Bool} : dIsi .int (.bl i) = .ok (.bl true) := rfl
@[simp] theorem isi_int_n : dIsi .int .non = .ok (.bl false) := rfl
@[simp] theorem isi_int_s {x : Str} : dIsi .int (.str x) = .ok (.bl false) := rfl
@[simp] theorem isi_int_t {x : List D} : dIsi .int (.tup x) = .ok (.bl false) := rfl
@[simp] theorem isi_int_l {x : List D} : dIsi .int (.lst x) = .ok (.bl false) := rfl
@[simp] theorem isi_bool_i {i : Int} : dIsi .bool (.int i) = .ok (.bl false) := rfl
@[simp] theorem isi_bool_b {i : Bool} : dIsi .bool (.bl i) = .ok (.bl true) := rfl
@[simp] theorem isi_bool_n : dIsi .bool .non = .ok (.bl false) := rfl
@[simp] theorem isi_bool_s {x : Str} : dIsi .bool (.str x) = .ok (.bl false) := rfl
@[simp] theorem isi_bool_t {x : List D} : dIsi .bool (.tup x) = .ok (.bl false) := rfl
@[simp] theorem isi_bool_l {x : List D} : dIsi .bool (.lst x) = .ok (.bl false) := rfl
@[simp] theorem isi_tuple_i {i : Int} : dIsi .tuple (.int i) = .ok (.bl false) := rfl
@[simp] theorem isi_tuple_b {i : Bool} : dIsi .tuple (.bl i) = .ok (.bl false) := rfl
@[simp] theorem isi_tuple_n : dIsi .tuple .non = .ok (.bl false) := rfl
@[simp] theorem isi_tuple_s {x : Str} : dIsi .tuple (.str x) = .ok (.bl false) := rfl
@[simp] theorem isi_tuple_t {x : List D} : dIsi .tuple (.tup x) = .ok (.bl true) := rfl
@[simp] theorem isi_tuple_l {x : List D} : dIsi .tuple (.lst x) = .ok (.bl false) := rfl
@[simp] theorem isi_list_i {i : Int} : dIsi .list (.int i) = .ok (.bl false) := rfl
@[simp] theorem isi_list_b {i : Bool} : dIsi .list (.bl i) = .ok (.bl false) := rfl
@[simp] theorem isi_list_n : dIsi .list .non = .ok (.bl false) := rfl
@[simp] theorem isi_list_s {x : Str} : dIsi .list (.str x) = .ok (.bl false) := rfl
@[simp] theorem isi_list_t {x : List D} : dIsi .list (.tup x) = .ok (.bl false) := rfl
@[simp] theorem isi_list_l {x : List D} : dIsi .list (.lst x) = .ok (.bl true) := rfl
theorem ints_mapF {α : Type} {F : α → Int} : ∀ l : List α, D.ints (l.map fun x => D.int (F x)) = some (l.map F)
  | [] => rfl
  | x :: l => by simp [D.ints, ints_mapF l]
theorem bls_mapF {α : Type} {F : α → Bool} : ∀ l : List α, D.bls (l.map fun x => D.bl (F x)) = some (l.map F)
  | [] => rfl
  | x :: l => by simp [D.bls, bls_mapF l]
theorem dSum_map {α : Type} {F : α → Int} {l : List α} : dSum [.lst (l.map fun x => D.int (F x))] = .ok (.int (l.map F).sum) := by
  unfold dSum
  simp only [ints_mapF]
theorem dAll_map {α : Type} {F : α → Bool} {l : List α} : dAll [.lst (l.map fun x => D.bl (F x))] = .ok (.bl (l.all F)) := by
  unfold dAll
  simp only [bls_mapF]
  simp [List.all_map]
theorem dAny_map {α : Type} {F : α → Bool} {l : List α} : dAny [.lst (l.map fun x => D.bl (F x))] = .ok (.bl (l.any F)) := by
  unfold dAny
  simp only [bls_mapF]
  simp [List.any_map]
@[simp] theorem dInt_i {i : Int} : dInt [.int i] = .ok (.int i) := rfl
@[simp] theorem dInt_b {b : Bool} : dInt [.bl b] = .ok (.int (if b then 1 else 0)) := rfl
@[simp] theorem dTupOf_l {ds : List D} : dTupOf [.lst ds] = .ok (.tup ds) := rfl
@[simp] theorem dTupOf_t {ds : List D} : dTupOf [.tup ds] = .ok (.tup ds) := rfl
@[simp] theorem dLstOf_l {ds : List D} : dLstOf [.lst ds] = .ok (.lst ds) := rfl
@[simp] theorem dLstOf_t {ds : List D} : dLstOf [.tup ds] = .ok (.lst ds) := rfl
@[simp] theorem isL_l {ds : List D} : D.isL (.lst ds) = true := rfl
@[simp] theorem dSl_l {ds : List D} {a b : Option Int} : dSl (.lst ds) a b = .ok (.lst (cutD ds a b)) := rfl
@[simp] theorem dSl_t {ds : List D} {a b : Option Int} : dSl (.tup ds) a b = .ok (.tup (cutD ds a b)) := rfl
@[simp] theorem cut_to {ds : List D} {k : Nat} : cutD ds none (some (k : Int)) = ds.take k := by
  unfold cutD
  rw [HT.sIx_none, HT.sIx_nat, List.drop_zero, Nat.sub_zero]
  by_cases h : k ≤ ds.length
  · rw [Nat.min_eq_left h]
  · rw [Nat.min_eq_right (by omega), List.take_of_length_le (Nat.le_refl _), List.take_of_length_le (by omega)]
@[simp] theorem cut_from {ds : List D} {k : Nat} : cutD ds (some (k : Int)) none = ds.drop k := by
  unfold cutD
  rw [HT.sIx_none, HT.sIx_nat]
  by_cases h : k ≤ ds.length
  · rw [Nat.min_eq_left h, List.take_of_length_le (by rw [List.length_drop]; exact Nat.le_refl _)]
  · rw [Nat.min_eq_right (by omega), List.drop_of_length_le (Nat.le_refl _), List.drop_of_length_le (by omega)]
    simp
@[simp] theorem dInA_t {x : D} {ds : List D} : dInA x (.tup ds) = dIn x (.lst ds) := rfl
@[simp] theorem dInA_l {x : D} {ds : List D} : dInA x (.lst ds) = dIn x (.lst ds) := rfl
@[simp] theorem dNotInA_t {x : D} {ds : List D} : dNotInA x (.tup ds) = dNotIn x (.lst ds) := rfl
@[simp] theorem dNotInA_l {x : D} {ds : List D} : dNotInA x (.lst ds) = dNotIn x (.lst ds) := rfl
@[simp] theorem dIdxT_t {x : D} {ds : List D} : dIdxT (.tup ds) x = dIdx (.lst ds) x := rfl
@[simp] theorem isT_t {ds : List D} : D.isT (.tup ds) = true := rfl
@[simp] theorem w_idxT {fa fb : Fx} {rho : List D} {P : D → List D → Prop} : wE (fIdxT fa fb rho) P = wE (fa rho) fun d r => d.isT = true ∧ wE (fb r) fun x r2 => wR (dIdxT d x) fun z => P z r2 := by
  unfold fIdxT
  simp only [w_un]
  congr 1
  funext x r
  cases e : x.isT <;> simp [stuck]
@[simp] theorem dEqA_int {i : Int} {y : D} : dEqA (.int i) y = dEq (.int i) y := rfl
@[simp] theorem dEqA_bl {i : Bool} {y : D} : dEqA (.bl i) y = dEq (.bl i) y := rfl
@[simp] theorem dEqA_non {y : D} : dEqA .non y = dEq .non y := rfl
@[simp] theorem dEqA_tup {i : List D} {y : D} : dEqA (.tup i) y = dEq (.tup i) y := rfl
@[simp] theorem dEqA_lst {i : List D} {y : D} : dEqA (.lst i) y = dEq (.lst i) y := rfl
@[simp] theorem dEqA_str {a b : Str} : dEqA (.str a) (.str b) = .ok (.bl (decide (a = b))) := rfl
@[simp] theorem dNeA_int {i : Int} {y : D} : dNeA (.int i) y = dNe (.int i) y := rfl
@[simp] theorem dNeA_bl {i : Bool} {y : D} : dNeA (.bl i) y = dNe (.bl i) y := rfl
@[simp] theorem dNeA_non {y : D} : dNeA .non y = dNe .non y := rfl
@[simp] theorem dNeA_tup {i : List D} {y : D} : dNeA (.tup i) y = dNe (.tup i) y := rfl
@[simp] theorem dNeA_lst {i : List D} {y : D} : dNeA (.lst i) y = dNe (.lst i) y := rfl
@[simp] theorem dNeA_str {a b : Str} : dNeA (.str a) (.str b) = .ok (.bl (!decide (a = b))) := rfl
@[simp] theorem wS_augIx {k : Nat} {h : Int → Int → Int} {fi fe : Fx} {rho : List D} {N : List D → Prop} {Q : D → List D → Prop} {Bk Ct : List D → Prop} : wS (sAugIx k h fi fe rho) N Q Bk Ct = wE (fi rho) fun i r => isI i fun i => 0 ≤ i ∧ ∃ ds x, r.getD k .non = .lst ds ∧ ds[i.toNat]? = some (.int x) ∧ wE (fe r) fun e r2 => isI e fun y => ∃ ds2, r2.getD k .non = .lst ds2 ∧ i.toNat < ds2.length ∧ N (r2.set k (.lst (ds2.set i.toNat (.int (h x y))))) := by
  unfold sAugIx wE
  cases fi rho with
  | error e => rfl
  | ok z =>
    obtain ⟨i, r⟩ := z
    simp only
    cases i with
    | int i =>
      simp only [isI]
      cases e1 : r.getD k .non with
      | lst ds =>
        simp only
        by_cases h0 : 0 ≤ i
        · cases e2 : ds[i.toNat]? with
          | none =>
            simp only [wS, stuck, eq_iff_iff, false_iff]
            rintro ⟨_, ds', x, e, e3, _⟩
            cases e
            rw [e2] at e3
            cases e3
          | some d =>
            cases d with
            | int x =>
              simp only [if_pos h0]
              cases e3 : fe r with
              | error e =>
                simp only [wS, eq_iff_iff, false_iff]
                rintro ⟨_, ds', x, e, e3, z⟩
                exact z
              | ok z =>
                obtain ⟨y, r2⟩ := z
                simp only
                cases y with
                | int y =>
                  simp only
                  cases e4 : r2.getD k .non with
                  | lst ds2 =>
                    simp only
                    by_cases h1 : i.toNat < ds2.length
                    · simp only [if_pos h1, wS, eq_iff_iff]
                      refine ⟨fun z => ⟨h0, ds, x, rfl, e2, ds2, rfl, h1, z⟩, ?_⟩
                      rintro ⟨_, ds', x', e, e5, ds3, e6, _, z⟩
                      cases e
                      cases e6
                      rw [e2] at e5
                      cases e5
                      exact z
                    · simp only [if_neg h1, wS, stuck, eq_iff_iff, false_iff]
                      rintro ⟨_, ds', x', e, e5, ds3, e6, h2, z⟩
                      cases e6
                      exact h1 h2
                  | _ =>
                    simp only [wS, stuck, eq_iff_iff, false_iff]
                    rintro ⟨_, ds', x', e, e5, ds3, e6, h2, z⟩
                    cases e6
                | _ =>
                  simp only [wS, stuck, eq_iff_iff, false_iff]
                  rintro ⟨_, ds', x', e, e5, z⟩
                  exact z
            | _ =>
              simp only [wS, stuck, eq_iff_iff, false_iff]
              rintro ⟨_, ds', x, e, e3, _⟩
              cases e
              rw [e2] at e3
              cases e3
        · simp only [eq_iff_iff]
          refine ⟨fun z => ?_, fun z => absurd z.1 h0⟩
          cases e2 : ds[i.toNat]? with
          | none => rw [e2] at z; exact z.elim
          | some d =>
            rw [e2] at z
            cases d with
            | int x =>
              simp only [if_neg h0] at z
              exact z.elim
            | _ => exact z.elim
      | _ =>
        simp only [wS, stuck, eq_iff_iff, false_iff]
        rintro ⟨_, ds', x, e, _⟩
        cases e
    | _ => rfl
end EB
namespace EB
open PySem L2
variable {B : Bd} {G G' G1 G2 G3 H H' H1 H2 H3 : Hp} {A A1 A2 A3 F : List Addr}
section
variable {I : Type} {X : Cf I} {W : WX} {C : Ctl} {Ga Ga1 Ga2 Ga3 : List Sh} {sa sb sc sh : Sh} {fa fb fc : Fx} {a b c e : Expr} {ta tb tc te : TE} {tt : TT} {cf : Fb} {pos p p2 p3 : Pos} {ts tu : TS} {f g : Fst} {st : Stmt} {rest sts sts2 : List Stmt}
/-! ### results of one's own: a + b of lists, list(x), list(range(..)), x[::-1] -/
def dAddL : D → D → R D
  | .lst x, .lst y => if x.length + y.length ≤ 16777216 then .ok (.lst (x ++ y)) else stuck
  | _, _ => stuck
theorem Sem.addL (ha : Sem B W ta Ga Ga1 sa fa) (hb : Sem B W tb Ga1 Ga2 sb fb) (fl : sa.flat = true) (fl2 : sb.flat = true) (s1 : seen1 Ga2 sa = true) (s2 : seen1 Ga2 sb = true) :
    Sem B W (tOp (rCatS B.K) ta tb) Ga Ga2 (.l .s) (fOp2 dAddL sa sb fa fb) := Sem.bin ha hb fl fl2 fun G H fps sg rho d e v w Q a v1 v2 p => by
  unfold dAddL at p
  split at p
  · rename_i x y e1 e2
    split at p
    · rename_i hz
      obtain ⟨l, vs, rfl, h1, r1⟩ := a.seqL v1 s1 e1
      obtain ⟨m, ws, rfl, h2, r2⟩ := a.seqL v2 s2 e2
      exact ⟨_, _, _, _, rfl, rfl, h1, h2, small_line (by rw [r1.length, r2.length]; exact hz), fun l hl => p _ _ _ _ _ (Res.newOwn a hl (own_list upd_same (r1.append r2)))⟩
    · exact p.elim
  · exact p.elim
theorem DE.addL (ha : DE X W ta Ga a Ga1 sa fa) (hb : DE X W tb Ga1 b Ga2 sb fb) (fl : sa.flat = true := by rfl) (fl2 : sb.flat = true := by rfl) (s1 : seen1 Ga2 sa = true := by rfl) (s2 : seen1 Ga2 sb = true := by rfl) :
    DE X W (tOp (rCatS X.K) ta tb) Ga (.BinOp a .Add b pos) Ga2 (.l .s) (fOp2 dAddL sa sb fa fb) := ⟨fun ii => pe_op op_catS (ha.pe ii) (hb.pe ii), Sem.addL ha.sm hb.sm fl fl2 s1 s2⟩
/-- list(x) -/
theorem Sem.lstL {tr : TA} {shs : List Sh} {fs : Fs} (h : SemA B W tr Ga Ga1 shs fs) (f : shs.all (seen1 Ga1) = true) : Sem B W (tCB (rLstOf B.K) tr) Ga Ga1 (.l .s) (fCall dLstOf shs fs) := h.args fun G H fps sg rho ds vs Q a vl p => by
  unfold dLstOf at p
  split at p
  · rename_i xs e
    obtain ⟨sh, v, d, rfl, rfl, rfl, e1, v1⟩ := vl.one e
    obtain ⟨l, vs, rfl, h, r⟩ := a.seqL v1 (by simpa using f) e1
    exact ⟨l, vs, rfl, .inl h.sq, fun q hq => p _ _ _ _ _ (Res.newOwn a hq (own_list upd_same r))⟩
  · rename_i xs e
    obtain ⟨sh, v, d, rfl, rfl, rfl, e1, v1⟩ := vl.one e
    have r := a.seqT v1 (by simpa using f) e1
    cases r with
    | tup h r => exact ⟨_, _, rfl, .inr (a.ex.sqt h.sqt), fun q hq => p _ _ _ _ _ (Res.newOwn a hq (own_list upd_same r))⟩
  · exact p.elim
theorem DE.lstL {tr : TA} {shs : List Sh} {fs : Fs} (hm : X.mg "list" = none) (ha : DA X W tr Ga [e] Ga1 shs fs) (f : shs.all (seen1 Ga1) = true := by rfl) (hg : ∀ ii, Gl (X.at ii) "list" := by intro _; rfl)
    (he : ∀ ii, starEach [e] (X.env ii) = (false, eval e (X.env ii)) :: starEach [] (X.env ii) := by intro _; rfl) (hpl : ∀ ii, (backTo pos (starEach [] (X.env ii))).any (·.1) = false := by intro _; rfl) :
    DE X W (tCB (rLstOf X.K) tr) Ga (.Call (.Name "list" p) [e] [] pos) Ga1 (.l .s) (fCall dLstOf shs fs) :=
  ⟨fun ii => pe_callTy call_list_of (hg ii) hm PyProof.Rows.boot_list (ha.pe ii) (by decide) (by decide) (he ii) (hpl ii), Sem.lstL ha.sm f⟩
/-- list(range(n)), list(range(a, b)) -/
def fLstR1 (fa : Fx) : Fx := fun rho => match fa rho with
  | .ok (d, rho1) => match d with
    | .int n => if -4611686018427387904 ≤ n ∧ n ≤ 16777216 then .ok (.lst ((List.range n.toNat).map fun (k : Nat) => D.int k), rho1) else stuck
    | _ => stuck
  | .error e => .error e
def fLstR2 (fa fb : Fx) : Fx := fUn fa fun d => fUn fb fun e rho => match d, e with
  | .int i, .int j => if (-4611686018427387904 ≤ i ∧ i < 4611686018427387904) ∧ (-4611686018427387904 ≤ j ∧ j < 4611686018427387904) ∧ (j - i).toNat ≤ 16777216 then .ok (.lst ((List.range (j - i).toNat).map fun (k : Nat) => D.int (i + k)), rho) else stuck
  | _, _ => stuck
theorem reps_rg (a b : Int) : Reps B G (rgV a b) ((List.range (b - a).toNat).map fun (k : Nat) => D.int (a + k)) := by
  unfold rgV
  generalize (List.range (b - a).toNat) = l
  induction l with
  | nil => exact .nil
  | cons x l ih => exact .cons (.int _) ih
theorem Sem.lstR1 (h : Sem B W ta Ga Ga1 .s fa) : Sem B W (tLstRg (tRg1 ta)) Ga Ga1 (.l .s) (fLstR1 fa) := fun G H fps sg rho Q av p => by
  refine h G H fps sg rho _ av ?_
  unfold fLstR1 at p
  cases e : fa rho with
  | error x =>
    rw [e] at p
    exact p.err
  | ok z =>
    obtain ⟨d, rho1⟩ := z
    rw [e] at p
    intro G1 H1 fps1 fp v r
    obtain ⟨rfl, rv⟩ := r.vl.of_s
    have st := r.st
    rw [List.append_nil] at st
    have p1 := p.later st
    simp only at p1
    cases d with
    | int n =>
      cases rv
      simp only at p1
      split at p1
      · rename_i hz
        refine ⟨n, rfl, ⟨by omega, by omega, by omega, by omega, by omega⟩, fun q hq => ?_⟩
        have rr := reps_rg (B := B) (G := G1) 0 n
        have e0 : ((List.range (n - 0).toNat).map fun (k : Nat) => D.int (0 + k)) = (List.range n.toNat).map fun (k : Nat) => D.int k := by simp
        rw [e0] at rr
        exact p1 _ _ _ _ _ (Res.newOwn r.av hq (own_list upd_same rr))
      · exact p1.elim
    | _ => exact p1.elim
theorem DE.lstR1 (hm : X.mg "list" = none) (hm2 : X.mg "range" = none) (h : DE X W ta Ga a Ga1 .s fa) (hc : X.calm = true := by rfl) (hg : ∀ ii, Gl (X.at ii) "list" := by intro _; rfl) (hg2 : ∀ ii, Gl (X.at ii) "range" := by intro _; rfl)
    (na : ∀ ii, starEach [a] (X.env ii) = (false, eval a (X.env ii)) :: starEach [] (X.env ii) := by intro _; rfl)
    (nb : ∀ ii, starEach [.Call (.Name "range" p) [a] [] p2] (X.env ii) = (false, eval (.Call (.Name "range" p) [a] [] p2) (X.env ii)) :: starEach [] (X.env ii) := by intro _; rfl) :
    DE X W (tLstRg (tRg1 ta)) Ga (.Call (.Name "list" p3) [.Call (.Name "range" p) [a] [] p2] [] pos) Ga1 (.l .s) (fLstR1 fa) :=
  ⟨fun ii => pe_listRg hc (hg ii) hm (prg_1 (hg2 ii) hm2 (h.pe ii) (na ii)) (nb ii), Sem.lstR1 h.sm⟩
theorem Sem.lstR2 (ha : Sem B W ta Ga Ga1 .s fa) (hb : Sem B W tb Ga1 Ga2 .s fb) : Sem B W (tLstRg (tRg2 ta tb)) Ga Ga2 (.l .s) (fLstR2 fa fb) := Sem.bin (r := fun x y H Q => ∃ i j, x = .int i ∧ y = .int j ∧ RgOk i j ∧ ∀ q, H q = none → Q (.ref q) (upd H q (.lst (rgV i j)))) ha hb rfl rfl fun G H fps sg rho d e v w Q a v1 v2 p => by
  split at p
  · rename_i i j
    split at p
    · rename_i hz
      cases v1.of_s.2
      cases v2.of_s.2
      exact ⟨i, j, rfl, rfl, ⟨by omega, by omega, by omega, by omega, by omega⟩, fun q hq => p _ _ _ _ _ (Res.newOwn a hq (own_list upd_same (reps_rg i j)))⟩
    · exact p.elim
  · exact p.elim
theorem DE.lstR2 (hm : X.mg "list" = none) (hm2 : X.mg "range" = none) (h : DE X W ta Ga a Ga1 .s fa) (h2 : DE X W tb Ga1 b Ga2 .s fb) (hc : X.calm = true := by rfl) (hg : ∀ ii, Gl (X.at ii) "list" := by intro _; rfl) (hg2 : ∀ ii, Gl (X.at ii) "range" := by intro _; rfl)
    (na : ∀ ii, starEach [a, b] (X.env ii) = (false, eval a (X.env ii)) :: starEach [b] (X.env ii) := by intro _; rfl) (na2 : ∀ ii, starEach [b] (X.env ii) = (false, eval b (X.env ii)) :: starEach [] (X.env ii) := by intro _; rfl) (na3 : ∀ ii, (backTo p2 (starEach [b] (X.env ii))).any (·.1) = false := by intro _; rfl)
    (nb : ∀ ii, starEach [.Call (.Name "range" p) [a, b] [] p2] (X.env ii) = (false, eval (.Call (.Name "range" p) [a, b] [] p2) (X.env ii)) :: starEach [] (X.env ii) := by intro _; rfl) :
    DE X W (tLstRg (tRg2 ta tb)) Ga (.Call (.Name "list" p3) [.Call (.Name "range" p) [a, b] [] p2] [] pos) Ga2 (.l .s) (fLstR2 fa fb) :=
  ⟨fun ii => pe_listRg hc (hg ii) hm (prg_2 (hg2 ii) hm2 (h.pe ii) (h2.pe ii) (na ii) (na2 ii) (na3 ii)) (nb ii), Sem.lstR2 h.sm h2.sm⟩
/-- x[::-1] of a list -/
def fRevL (sa : Sh) (fa : Fx) : Fx := fUn fa fun d rho => match res sa d rho with
  | .lst ds => .ok (.lst ds.reverse, rho)
  | _ => stuck
theorem DE.revL {k : Nat} (ha : DE X W ta Ga a Ga1 sa fa) (fl : sa.flat = true := by rfl) (s1 : seen1 Ga1 sa = true := by rfl) : DE X W (tRevL X.K ta) Ga (.Subscript a (.Slice none none (some (.UnaryOp .USub (.Constant (.int 1) k p) p2)) p3) pos) Ga1 (.l .s) (fRevL sa fa) :=
  ⟨fun ii => pe_revL (ha.pe ii), Sem.un (r := fun x H Q => ∃ a xs, x = .ref a ∧ SqL X.K H a xs ∧ ∀ p, H p = none → Q (.ref p) (upd H p (.lst xs.reverse))) ha.sm fl fun G H fps sg rho d v Q a v1 p => by
    split at p
    · rename_i ds e
      obtain ⟨l, vs, rfl, h, r⟩ := a.seqL v1 s1 e
      exact ⟨l, vs, rfl, h.sq, fun q hq => p _ _ _ _ _ (Res.newOwn a hq (own_list upd_same r.reverse))⟩
    · exact p.elim⟩
/-- {} -/
theorem DE.dct0 : DE X W tDNewK Ga (.Dict [] [] pos) Ga .s (fC (.dct [] [])) := ⟨fun ii => pe_dnewK, fun G H fps sg rho Q av p q hq => by
  have p : Post (bd X) W Ga .s sg G H fps.flatten Q (.ok (.dct [] [], rho)) := p
  exact p _ _ _ _ _ (Res.new av hq (.dct (kvs := []) upd_same rfl .nil))⟩
/-! ### name.pop(i) as a value, name.reverse(), del name[i] -/
def fPopI (k : Nat) (fa : Fx) : Fx := fun rho => match fa rho with
  | .ok (i, rho1) => match i, rho1.getD k .non with
    | .int i, .lst ds => match ixN ds.length i with
      | some j => match ds[j]? with
        | some d => if ds.length ≤ 16777216 then .ok (d, rho1.set k (.lst (ds.eraseIdx j))) else stuck
        | none => stuck
      | none => stuck
    | _, _ => stuck
  | .error e => .error e
theorem Sem.popI {k : Nat} (h : Sem B W ta Ga Ga1 .s fa) (hg0 : Ga[k]? = some (.l .s)) (hg : Ga1[k]? = some (.l .s)) : Sem B W (tBM B.K "list" rPopAt (tVar k) (tCons ta tNil)) Ga Ga1 .s (fPopI k fa) := fun G H fps sg rho Q av p => by
  obtain ⟨q, vs0, ds0, hq, _, hl0, _, _⟩ := av.mut hg0
  refine ⟨.ref q, hq, .inl ⟨rfl, vs0, SqL.of hl0⟩, h G H fps sg rho _ av ?_⟩
  unfold fPopI at p
  cases e : fa rho with
  | error x =>
    rw [e] at p
    exact p.err
  | ok z =>
    obtain ⟨i, rho1⟩ := z
    rw [e] at p
    intro G1 H1 fps1 fp v r
    obtain ⟨rfl, rv⟩ := r.vl.of_s
    have st := r.st
    rw [List.append_nil] at st
    obtain ⟨q', vs, ds, hq', hd, hl, rs, up⟩ := r.av.mut hg
    rw [hq] at hq'
    cases hq'
    have p1 := p.later st
    simp only [getD_of hd] at p1
    cases i with
    | int i =>
      cases rv
      simp only at p1
      split at p1
      · rename_i j ej
        split at p1
        · rename_i d ed
          split at p1
          · rename_i hz
            obtain ⟨w, ew, rw1⟩ := rs.get ed
            obtain ⟨z1, z2, z3, z4⟩ := ixN_seq ej
            obtain ⟨a3, s3⟩ := up _ _ (rs.eraseIdx j)
            refine ⟨q, vs, i, j, w, rfl, rfl, hl, by omega, by omega, by rw [rs.length]; exact z1, ew, ?_⟩
            exact p1 _ _ _ [] w ⟨s3.sub (by simp), a3, .s rw1, by simpa using a3.nd, by simp⟩
          · exact p1.elim
        · exact p1.elim
      · exact p1.elim
    | _ => exact p1.elim
theorem DE.popI (k : Nat) {x : Str} (h : DE X W ta Ga e Ga1 .s fa) (hg0 : Ga[k]? = some (.l .s) := by rfl) (hg : Ga1[k]? = some (.l .s) := by rfl) (hN : X.N[k]? = some x := by rfl)
    (hv : ∀ ii, Vis (X.env ii).scope x := by intro _; first | exact Or.inl rfl | exact Or.inr (Or.inl rfl) | exact Or.inr (Or.inr rfl)) (hd : (x == ("__debug__" : Str)) = false := by decide) (hc : (x == ("__classdict__" : Str)) = false := by decide)
    (hbase : ∀ ii, attributeBase (.Name x p) "pop" (X.env ii) (eval (.Name x p) (X.env ii)) = eval (.Name x p) (X.env ii) := by intro _; rfl)
    (hfew : ∀ ii, ((backTo p2 (starEach (e :: []) (X.env ii))).all (fun x => !x.1) && (backToKw p2 (keywordEach [] (X.env ii))).all (fun x => x.1.isSome)
      && decide ((e :: []).length + ([] : List Keyword).length + (if ([] : List Keyword).isEmpty then 0 else 1) < 30)) = true := by intro _; rfl)
    (hline : (p3.endLine == p2.line) = true := by rfl) (hs : ∀ ii, starEach (e :: []) (X.env ii) = (false, eval e (X.env ii)) :: starEach [] (X.env ii) := by intro _; rfl) (hplain : ∀ ii, (backTo p2 (starEach [] (X.env ii))).any (·.1) = false := by intro _; rfl) :
    DE X W (tBM X.K "list" rPopAt (tVar k) (tCons ta tNil)) Ga (.Call (.Attribute (.Name x p) "pop" p3) [e] [] p2) Ga1 .s (fPopI k fa) :=
  ⟨fun ii => pe_bm PySem.F.plainAttrs_list PySem.F.slot_list_pop PySem.F.type_list_pop mt_popAt (pe_var hN (hv ii) hd hc) (pa_cons (h.pe ii) pa_nil (hs ii)) (hbase ii) (hfew ii) hline (hs ii) (hplain ii), Sem.popI h.sm hg0 hg⟩
def sRev (k : Nat) : Fst := fun rho => match rho.getD k .non with
  | .lst ds => .ok (.nx (rho.set k (.lst ds.reverse)))
  | _ => stuck
theorem SemS.rev {k : Nat} (hg : Ga[k]? = some (.l .s)) : SemS B W C (tDrop (tBM B.K "list" rReverse (tVar k) tNil)) Ga Ga (sRev k) := fun G H fps sg rho E av p => by
  obtain ⟨q, vs, ds, hq, hd, hl, rs, up⟩ := av.mut hg
  refine ⟨.ref q, hq, .inl ⟨rfl, vs, SqL.of hl⟩, q, vs, rfl, rfl, hl, ?_⟩
  unfold sRev at p
  rw [getD_of hd] at p
  simp only at p
  obtain ⟨a3, s3⟩ := up _ _ rs.reverse
  exact p _ _ _ _ s3 a3 (Kp.refl _ _)
theorem DS.rev (k : Nat) {x : Str} (hg : Ga[k]? = some (.l .s) := by rfl) (hN : X.N[k]? = some x := by rfl)
    (hv : ∀ ii, Vis (X.env ii).scope x := by intro _; first | exact Or.inl rfl | exact Or.inr (Or.inl rfl) | exact Or.inr (Or.inr rfl)) (hd : (x == ("__debug__" : Str)) = false := by decide) (hc : (x == ("__classdict__" : Str)) = false := by decide)
    (hbase : ∀ ii, attributeBase (.Name x p) "reverse" (X.env ii) (eval (.Name x p) (X.env ii)) = eval (.Name x p) (X.env ii) := by intro _; rfl)
    (hline : (p3.endLine == p2.line) = true := by rfl)
    (hsw : ∀ ii, swapsWith (.Call (.Attribute (.Name x p) "reverse" p3) [] [] p2) none pos.line (X.env ii) = pure false := by intro _; rfl) :
    DS X W C (tDrop (tBM X.K "list" rReverse (tVar k) tNil)) Ga (.Expr (.Call (.Attribute (.Name x p) "reverse" p3) [] [] p2) pos) Ga (sRev k) :=
  ⟨fun ii => ps_expr (pe_bm0 PySem.F.plainAttrs_list PySem.F.slot_list_reverse PySem.F.type_list_reverse mt_reverse (pe_var hN (hv ii) hd hc) (hbase ii) hline) (hsw ii), SemS.rev hg⟩
def sDel (k : Nat) (fa : Fx) : Fst := fun rho => match fa rho with
  | .ok (i, rho1) => match i, rho1.getD k .non with
    | .int i, .lst ds => match ixN ds.length i with
      | some j => if ds.length ≤ 16777216 then .ok (.nx (rho1.set k (.lst (ds.eraseIdx j)))) else stuck
      | none => stuck
    | _, _ => stuck
  | .error e => .error e
theorem SemS.del {k : Nat} (h : Sem B W ta Ga Ga1 .s fa) (hg0 : Ga[k]? = some (.l .s)) (hg : Ga1[k]? = some (.l .s)) : SemS B W C (tDelL (tVar k) ta) Ga Ga1 (sDel k fa) := fun G H fps sg rho E av p => by
  obtain ⟨q, vs0, ds0, hq, _, hl0, _, _⟩ := av.mut hg0
  refine ⟨.ref q, hq, h G H fps sg rho _ av ?_⟩
  unfold sDel at p
  cases e : fa rho with
  | error x =>
    rw [e] at p
    exact p.errE
  | ok z =>
    obtain ⟨i, rho1⟩ := z
    rw [e] at p
    intro G1 H1 fps1 fp v r
    obtain ⟨rfl, rv⟩ := r.vl.of_s
    have st := r.st
    rw [List.append_nil] at st
    obtain ⟨q', vs, ds, hq', hd, hl, rs, up⟩ := r.av.mut hg
    rw [hq] at hq'
    cases hq'
    have p1 := p.later st (Kp.refl _ _)
    simp only [getD_of hd] at p1
    cases i with
    | int i =>
      cases rv
      simp only at p1
      split at p1
      · rename_i j ej
        split at p1
        · rename_i hz
          obtain ⟨z1, z2, z3, z4⟩ := ixN_seq ej
          obtain ⟨a3, s3⟩ := up _ _ (rs.eraseIdx j)
          exact ⟨q, vs, i, j, rfl, rfl, hl, by omega, by omega, by rw [rs.length]; exact z1, p1 _ _ _ _ s3 a3 (Kp.refl _ _)⟩
        · exact p1.elim
      · exact p1.elim
    | _ => exact p1.elim
theorem DS.del (k : Nat) {x : Str} {tpos : Pos} (h : DE X W ta Ga e Ga1 .s fa) (hg0 : Ga[k]? = some (.l .s) := by rfl) (hg : Ga1[k]? = some (.l .s) := by rfl) (hN : X.N[k]? = some x := by rfl)
    (hv : ∀ ii, Vis (X.env ii).scope x := by intro _; first | exact Or.inl rfl | exact Or.inr (Or.inl rfl) | exact Or.inr (Or.inr rfl)) (hd : (x == ("__debug__" : Str)) = false := by decide) (hc : (x == ("__classdict__" : Str)) = false := by decide) :
    DS X W C (tDelL (tVar k) ta) Ga (.Delete [.Subscript (.Name x p) e tpos] pos) Ga1 (sDel k fa) := ⟨fun ii => ps_delL (pe_var hN (hv ii) hd hc) (h.pe ii), SemS.del h.sm hg0 hg⟩
end
/-! ### tuple * k -/
def rRepQ (K : PySem.W.Frag) : R2 := fun x y H Q => ∃ l k xs, x = .ref l ∧ y = .int k ∧ SqT K H l xs ∧ xs ≠ [] ∧ 2 ≤ k ∧ k ≤ 1000 ∧ xs.length ≤ 1000 ∧ ∀ p o, H p = none → o.cls = .type "tuple" → o.dict = none → Q (.ref p) (upd H p (.frz o (.tup (List.replicate k.toNat xs).flatten)))
theorem op_repQ {X : Cx} : OpR X (binaryOp .Mult) (rRepQ X.K) := by
  intro pins s σ H x y v u Q I rx ry h
  obtain ⟨l, k, xs, rfl, rfl, hT, hne, h1, h2, hz, q⟩ := h
  cases rx
  obtain ⟨t, rfl⟩ := ry
  obtain ⟨its, r, ⟨⟨cls, dd, data, sl⟩, ho, hc, n, hd⟩, hs⟩ := I.tuple hT
  simp only at hc hd
  subst hc hd
  have hle : its.length = xs.length := r.length.symm
  have hn : its ≠ [] := fun e => hne (by
    rw [e] at hle
    exact List.eq_nil_of_length_eq_zero hle.symm)
  have hi : its.toArray.isEmpty = false := by
    cases its with
    | nil => exact absurd rfl hn
    | cons a b => rfl
  have hsz0 : its.toArray.size = xs.length := by rw [List.size_toArray, hle]
  have hm : ((its.toArray.size : Nat) : Int) * k ≤ 1000000 := by
    rw [hsz0]
    have a1 : ((xs.length : Nat) : Int) * k ≤ 1000 * k := Int.mul_le_mul_of_nonneg_right (by omega) (by omega)
    omega
  have flen : (List.replicate k.toNat its).flatten.length ≤ sizeLine := by
    rw [PyProof.Rows.lm_len_rep_flat, hle, sizeLine_eq]
    have a1 : k.toNat * xs.length ≤ 1000 * 1000 := Nat.mul_le_mul (by omega) hz
    omega
  have c0 : (decide (k < -(2 ^ 63)) || decide (k ≥ 2 ^ 63)) = false := by
    rw [decide_eq_false (by omega), decide_eq_false (by omega)] <;> rfl
  have c1 : (its.toArray.isEmpty || k == 1) = false := by
    rw [hi, Bool.false_or]
    exact beq_eq_false_iff_ne.mpr (by omega)
  have c2 : (decide (k ≤ 0) || its.toArray.isEmpty) = false := by
    rw [hi, Bool.or_false]
    exact decide_eq_false (by omega)
  have c4 : Builtin.Tuple.tupleTooMany (((its.toArray.size : Nat) : Int) * k) = false := by
    unfold Builtin.Tuple.tupleTooMany
    rw [sizeLine_eq]
    exact decide_eq_false (by omega)
  refine PySem.wpAny_binaryOp_repeat_ref (T := "tuple") (U := "int") (by decide) ⟨_, ho, rfl⟩ (fun s' => typeIs_int s' k t) noFill_tuple_mul F.fills_int_mul F.slot_int_rmul repeat_tuple F.slot_int_index.lookup
    (call_meets F.slot_int_rmul (typeIs_int s k t) F.entry_int_rmul (F.args_int_rmul_2 _ _) (int_rmul_tuple k t l its.toArray n dd sl)
      ⟨ho, rfl, ⟨_, ho, rfl⟩, call_meets F.slot_tuple_mul ⟨_, ho, rfl⟩ F.entry_tuple_mul (F.args_tuple_mul_2 _ _) (tuple_mulW l its.toArray n dd sl k t c0 c1 c2 (by omega) c4 (by rw [size_rep, List.size_toArray]; exact flen)) ⟨ho, ?_⟩⟩)
  rw [size_rep]
  refine ⟨.ref s.heap.objs.size, _, I.laid (t' := s.toks) (o := .frz { cls := .type "tuple", data := .seq (List.replicate k.toNat its).flatten.toArray } (.tup (List.replicate k.toNat xs).flatten)) (fun b ob q => Heap.get?_push_of_some _ q) (Nat.le_refl _) ?n, rfl, q _ _ (I.hok.fresh (Nat.le_refl _)) rfl rfl⟩
  case n => exact ⟨Heap.get?_push_size _ rfl, by rw [PyProof.Rows.lm_len_rep_flat, sizeLine_eq]; have a1 : k.toNat * xs.length ≤ 1000 * 1000 := Nat.mul_le_mul (by omega) hz; omega, _, r.rep k.toNat, PyProof.Rows.IsTup.new _ _⟩
def dRepT : D → D → R D
  | .tup ds, .int k => if ds ≠ [] ∧ 2 ≤ k ∧ k ≤ 1000 ∧ ds.length ≤ 1000 then .ok (.tup (List.replicate k.toNat ds).flatten) else stuck
  | _, _ => stuck
theorem o2_repT : Op2i B (rRepQ B.K) dRepT := fun G H W Ga fps sg rho sa sb d e v w Q a v1 v2 s1 s2 p => by
  unfold dRepT at p
  split at p
  · rename_i ds k e1 e2
    split at p
    · rename_i hz
      have hw := a.int v2 (seen_of s2) e2
      subst hw
      have r := a.seqT v1 s1 e1
      cases r with
      | tup h r =>
        refine ⟨_, k, _, rfl, rfl, a.ex.sqt h.sqt, fun z => hz.1 ?_, hz.2.1, hz.2.2.1, by rw [r.length]; exact hz.2.2.2, fun q o hq o1 o2 => p _ _ _ _ _ (Res.new a hq (.tup (TQ.of upd_same o1 o2) ((r.rep k.toNat).mono (Ex.new (a.ex.free hq)))))⟩
        subst z
        exact List.eq_nil_of_length_eq_zero r.length.symm
    · exact p.elim
  · exact p.elim
/-! ### .count of a list -/
def rCountD (K : PySem.W.Frag) : V → List V → Hp → VK → Prop := fun x xs H Q => ∃ (a : Addr) (y : V) (d : PyData) (ds : List PyData), x = V.ref a ∧ xs = [y] ∧ Dp K H (V.ref a) (.list ds) ∧ Dp K H y d ∧
  SeqAt.shaped (.list ds) = true ∧ SeqAt.shaped d = true ∧ Q (.int ((ds.countP fun z => PyData.eqv z d : Nat) : Int)) H
theorem mt_countD {X : Cx} (hu : X.A.units + 65 < cLine) : MtR X "list.count" (rCountD X.K) := by
  intro pins s sg H x xs v us Q I rx rxs h
  obtain ⟨a, y, d, ds, rfl, rfl, hl, hy, sl, sd, q⟩ := h
  cases rx
  cases rxs with
  | cons ry rt =>
    rename_i uy ut
    cases rt
    obtain ⟨bs, r1⟩ := Dp.reads I d y uy hy ry
    have hxs : PyData.canLayAll0 ds = true := SeqAt.canLay_of_shaped sl
    have hroom : X.A.units + 1 + min (PyData.depthAll ds) d.depth < cLine := room_in_t (shaped_t sl) hu
    cases hl with
    | lst hs ha =>
      obtain ⟨its, rv, ⟨⟨cls, dd, data, sls⟩, n, ho, hc, hdn, hdt⟩, hlen⟩ := I.list hs
      simp only at hc hdt
      subst hc hdt
      obtain ⟨as, h4⟩ := Dp.readsAll I ds _ its ha rv
      have hmap : its.map (SeqAt.readOf s.heap) = ds := SeqAt.readsAll_map ds its as hxs h4
      refine call_meets PySem.F.slot_list_count ⟨_, ho, rfl⟩ PySem.F.entry_list_count (PySem.F.args_list_count_2 _ _)
        (SeqAt.list_countAt a its.toArray n dd sls uy (fun u => PyData.eqv (SeqAt.readOf s.heap u) d)) ⟨ho, SeqAt.items_eqAt (vs := its.toArray) (show ReadsAll s.heap its.toArray.toList ds as from h4) r1 hxs (SeqAt.canLay_of_shaped sd) hroom, ?_⟩
      refine ⟨.int ((ds.countP fun z => PyData.eqv z d : Nat) : Int), H, I.tok _, ⟨s.toks, ?_⟩, q⟩
      show Value.int ((its.toArray.toList.countP (fun u => PyData.eqv (SeqAt.readOf s.heap u) d) : Nat) : Int) s.toks = Value.int ((ds.countP fun z => PyData.eqv z d : Nat) : Int) s.toks
      rw [← hmap, List.countP_map]
      rfl
def dCount : D → D → R D
  | .lst ds, x => match D.pys ds, x.py with
    | some ps, some p => if SeqAt.shaped (.list ps) = true ∧ SeqAt.shaped p = true then .ok (.int ((ps.countP fun z => PyData.eqv z p : Nat) : Int)) else stuck
    | _, _ => stuck
  | _, _ => stuck
def fCount (sa : Sh) (fa fb : Fx) : Fx := fUn fa fun d rho => if (res sa d rho).isL then fUn fb (fun x rho => lift (dCount (res sa d rho) x) rho) rho else stuck
section
variable {I : Type} {X : Cf I} {W : WX} {Ga Ga1 Ga2 : List Sh} {sa : Sh} {fa fb : Fx} {a b : Expr} {ta tb : TE} {p2 p3 : Pos}
theorem Sem.count (ha : Sem B W ta Ga Ga1 sa fa) (hb : Sem B W tb Ga1 Ga2 .s fb) (fl : sa.flat = true) (s0 : seen Ga1 sa = true) (s1 : seen Ga2 sa = true) : Sem B W (tBM B.K "list" (rCountD B.K) ta (tCons tb tNil)) Ga Ga2 .s (fCount sa fa fb) := fun G H fps sg rho Q av h =>
  ha G H fps sg rho _ av (h.un fl fun G1 H1 fps1 d rho1 v a1 v1 st h1 => by
    split at h1
    · rename_i hL
      refine ⟨?_, hb G1 H1 fps1 sg rho1 _ a1 (Post.un rfl h1 fun G2 H2 fps2 x rho2 w a2 w2 st2 h2 => ?_)⟩
      · obtain ⟨G', _, x', r⟩ := a1.view v1 s0
        generalize res sa d rho1 = z at r hL
        cases r with
        | lst hl rs => exact .inl ⟨rfl, _, (x'.sl hl).sq⟩
        | _ => simp [D.isL] at hL
      · have v2 := v1.mono st2.g (H' := H2) (by simp)
        obtain ⟨G', _, x', r⟩ := a2.view v2 s1
        unfold dCount at h2
        split at h2
        · rename_i ds _ ed
          split at h2
          · rename_i ps p e1 e2
            split at h2
            · rename_i hsh
              have rd : Dp B.K H2 v (.list ps) := r.dp x' (by rw [ed]; simp [D.py, e1])
              cases rd with
              | lst hq hd => exact ⟨_, w, p, ps, rfl, rfl, .lst hq hd, (w2.of_s.2).dp a2.ex e2, hsh.1, hsh.2, Post.flat a2 h2 (.int _)⟩
            · exact h2.elim
          · exact h2.elim
        · exact h2.elim
    · exact h1.elim)
theorem DE.count (hu : X.A.units + 65 < cLine) (ha : DE X W ta Ga a Ga1 sa fa) (hb : DE X W tb Ga1 b Ga2 .s fb) (fl : sa.flat = true := by rfl) (s0 : seen Ga1 sa = true := by rfl) (s1 : seen Ga2 sa = true := by rfl)
    (hbase : ∀ ii, attributeBase a "count" (X.env ii) (eval a (X.env ii)) = eval a (X.env ii) := by intro _; rfl)
    (hfew : ∀ ii, ((backTo p2 (starEach (b :: []) (X.env ii))).all (fun x => !x.1) && (backToKw p2 (keywordEach [] (X.env ii))).all (fun x => x.1.isSome)
      && decide ((b :: []).length + ([] : List Keyword).length + (if ([] : List Keyword).isEmpty then 0 else 1) < 30)) = true := by intro _; rfl)
    (hline : (p3.endLine == p2.line) = true := by rfl) (hs : ∀ ii, starEach (b :: []) (X.env ii) = (false, eval b (X.env ii)) :: starEach [] (X.env ii) := by intro _; rfl) (hplain : ∀ ii, (backTo p2 (starEach [] (X.env ii))).any (·.1) = false := by intro _; rfl) :
    DE X W (tBM X.K "list" (rCountD X.K) ta (tCons tb tNil)) Ga (.Call (.Attribute a "count" p3) [b] [] p2) Ga2 .s (fCount sa fa fb) :=
  ⟨fun ii => pe_bm PySem.F.plainAttrs_list PySem.F.slot_list_count PySem.F.type_list_count (mt_countD hu) (ha.pe ii) (pa_cons (hb.pe ii) pa_nil (hs ii)) (hbase ii) (hfew ii) hline (hs ii) (hplain ii), Sem.count ha.sm hb.sm fl s0 s1⟩
end
/-! ### wp rules -/
section
variable {P : D → List D → Prop} {fa fb fc : Fx} {sa sb : Sh} {rho : List D}
@[simp] theorem w_lstR1 : wE (fLstR1 fa rho) P = wE (fa rho) fun d r => isI d fun n => (-4611686018427387904 ≤ n ∧ n ≤ 16777216) ∧ P (.lst ((List.range n.toNat).map fun (k : Nat) => D.int k)) r := by
  unfold fLstR1
  cases fa rho with
  | error e => rfl
  | ok z =>
    obtain ⟨d, r⟩ := z
    cases d with
    | int n =>
      simp only [wE_ok, isI_int]
      by_cases h : -4611686018427387904 ≤ n ∧ n ≤ 16777216
      · rw [if_pos h]
        simp [h]
      · rw [if_neg h]
        simp only [wE_er, stuck, eq_iff_iff, false_iff]
        exact fun z => h z.1
    | _ => rfl
@[simp] theorem w_lstR2 : wE (fLstR2 fa fb rho) P = wE (fa rho) fun d r => wE (fb r) fun e r2 => isI d fun i => isI e fun j => ((-4611686018427387904 ≤ i ∧ i < 4611686018427387904) ∧ (-4611686018427387904 ≤ j ∧ j < 4611686018427387904) ∧ (j - i).toNat ≤ 16777216) ∧ P (.lst ((List.range (j - i).toNat).map fun (k : Nat) => D.int (i + k))) r2 := by
  unfold fLstR2
  simp only [w_un]
  congr 1
  funext d r
  congr 1
  funext e r2
  cases d with
  | int i =>
    cases e with
    | int j =>
      simp only [isI_int]
      by_cases h : (-4611686018427387904 ≤ i ∧ i < 4611686018427387904) ∧ (-4611686018427387904 ≤ j ∧ j < 4611686018427387904) ∧ (j - i).toNat ≤ 16777216
      · rw [if_pos h]
        simp only [wE_ok, eq_iff_iff]
        exact ⟨fun z => ⟨h, z⟩, fun z => z.2⟩
      · rw [if_neg h]
        simp only [wE_er, stuck, eq_iff_iff, false_iff]
        exact fun z => h z.1
    | _ => rfl
  | _ => rfl
@[simp] theorem w_revL : wE (fRevL sa fa rho) P = wE (fa rho) fun d r => ∃ ds, res sa d r = .lst ds ∧ P (.lst ds.reverse) r := by
  unfold fRevL
  simp only [w_un]
  congr 1
  funext d r
  cases res sa d r <;> simp [stuck]
@[simp] theorem w_popI {k : Nat} : wE (fPopI k fa rho) P = wE (fa rho) fun i r => isI i fun i => ∃ ds j d, r.getD k .non = .lst ds ∧ ixN ds.length i = some j ∧ ds[j]? = some d ∧ ds.length ≤ 16777216 ∧ P d (r.set k (.lst (ds.eraseIdx j))) := by
  unfold fPopI
  cases fa rho with
  | error e => rfl
  | ok z =>
    obtain ⟨i, r⟩ := z
    cases i with
    | int i =>
      simp only [wE_ok, isI_int]
      cases e : r.getD k .non with
      | lst ds =>
        simp only
        cases e2 : ixN ds.length i with
        | none => simp [stuck, e2]
        | some j =>
          cases e3 : ds[j]? with
          | none => simp [stuck, e2, e3]
          | some d =>
            by_cases h : ds.length ≤ 16777216 <;> simp [stuck, e2, e3, h]
      | _ => simp [stuck]
    | _ => rfl
variable {N : List D → Prop} {Q : D → List D → Prop} {Bk Ct : List D → Prop}
@[simp] theorem wS_rev {k : Nat} : wS (sRev k rho) N Q Bk Ct = ∃ ds, rho.getD k .non = .lst ds ∧ N (rho.set k (.lst ds.reverse)) := by
  unfold sRev wS
  cases e : rho.getD k .non <;> simp [stuck]
@[simp] theorem wS_del {k : Nat} : wS (sDel k fa rho) N Q Bk Ct = wE (fa rho) fun i r => isI i fun i => ∃ ds j, r.getD k .non = .lst ds ∧ ixN ds.length i = some j ∧ ds.length ≤ 16777216 ∧ N (r.set k (.lst (ds.eraseIdx j))) := by
  unfold sDel wS
  cases fa rho with
  | error e => rfl
  | ok z =>
    obtain ⟨i, r⟩ := z
    cases i with
    | int i =>
      simp only [wE_ok, isI_int]
      cases e : r.getD k .non with
      | lst ds =>
        simp only
        cases e2 : ixN ds.length i with
        | none => simp [stuck, e2]
        | some j => by_cases h : ds.length ≤ 16777216 <;> simp [stuck, e2, h]
      | _ => simp [stuck]
    | _ => rfl
@[simp] theorem w_count : wE (fCount sa fa fb rho) P = wE (fa rho) fun d r => (res sa d r).isL = true ∧ wE (fb r) fun x r2 => wR (dCount (res sa d r2) x) fun z => P z r2 := by
  unfold fCount
  simp only [w_un]
  congr 1
  funext x r
  cases e : (res sa x r).isL <;> simp [stuck]
@[simp] theorem dAddL_l {x y : List D} {P : D → Prop} : wR (dAddL (.lst x) (.lst y)) P = (x.length + y.length ≤ 16777216 ∧ P (.lst (x ++ y))) := by
  unfold dAddL
  by_cases h : x.length + y.length ≤ 16777216 <;> simp [h, stuck]
@[simp] theorem dRepT_t {x : List D} {k : Int} {P : D → Prop} : wR (dRepT (.tup x) (.int k)) P = ((x ≠ [] ∧ 2 ≤ k ∧ k ≤ 1000 ∧ x.length ≤ 1000) ∧ P (.tup (List.replicate k.toNat x).flatten)) := by
  show wR (if x ≠ [] ∧ 2 ≤ k ∧ k ≤ 1000 ∧ x.length ≤ 1000 then .ok (D.tup (List.replicate k.toNat x).flatten) else stuck) P = _
  by_cases h : x ≠ [] ∧ 2 ≤ k ∧ k ≤ 1000 ∧ x.length ≤ 1000
  · rw [if_pos h]
    simp [h]
  · rw [if_neg h]
    simp only [wR_er, stuck, eq_iff_iff, false_iff]
    exact fun z => h z.1
end
end EB
namespace EB
open PySem PyProof.Rows L2
/-! ### repr of any data, the empty dict within -/
mutual
inductive RdE (h : Heap) : Value → PyData → Prop
  | none : RdE h .none .none
  | bool (b) : RdE h (.bool b) (.bool b)
  | int (i t) : RdE h (.int i t) (.int i)
  | str (x t) : RdE h (.str x t) (.str x)
  | list {a o vs n xs} : h.get? a = some o → o.cls = .type "list" → o.data = .seq vs n → RdEs h vs.toList xs → RdE h (.ref a) (.list xs)
  | tuple {a o vs n xs} : h.get? a = some o → o.cls = .type "tuple" → o.data = .seq vs n → RdEs h vs.toList xs → RdE h (.ref a) (.tuple xs)
  | dict {a o es n} : h.get? a = some o → o.cls = .type "dict" → o.data = .dict es n → es.toList = [] → (a == sysModules) = false → RdE h (.ref a) (.dict [])
inductive RdEs (h : Heap) : List Value → List PyData → Prop
  | nil : RdEs h [] []
  | cons {v vs d ds} : RdE h v d → RdEs h vs ds → RdEs h (v :: vs) (d :: ds)
end
section
variable {prog : Program} {w : World} {h₀ : Heap}
mutual
theorem RdE.reads : ∀ {v : Value} {d : PyData}, RdE h₀ v d → ∃ as, Reads h₀ v d as
  | _, _, .none => ⟨_, .none⟩
  | _, _, .bool b => ⟨_, .bool b⟩
  | _, _, .int i t => ⟨_, .int i t⟩
  | _, _, .str x t => ⟨_, .str x t⟩
  | _, _, .list h1 h2 h3 h4 => by
    obtain ⟨as, r⟩ := RdEs.reads h4
    exact ⟨_, .list h1 h2 h3 r⟩
  | _, _, .tuple h1 h2 h3 h4 => by
    obtain ⟨as, r⟩ := RdEs.reads h4
    exact ⟨_, .tuple h1 h2 h3 r⟩
  | _, _, .dict h1 h2 h3 h4 _ => ⟨_, .dict (kvs := []) h1 h2 h3 (by rw [h4]; exact .nil) (by rw [h4]; exact .nil)⟩
theorem RdEs.reads : ∀ {vs : List Value} {ds : List PyData}, RdEs h₀ vs ds → ∃ as, ReadsAll h₀ vs ds as
  | _, _, .nil => ⟨_, .nil⟩
  | _, _, .cons h r => by
    obtain ⟨as, h'⟩ := RdE.reads h
    obtain ⟨bs, r'⟩ := RdEs.reads r
    exact ⟨_, .cons h' r'⟩
end
mutual
theorem reprK_rdE : ∀ {v : Value} {d : PyData}, RdE h₀ v d → d.showable = true → d.shown.length ≤ sizeLine → ∃ bs, ReadAtMost h₀ d.depth bs ∧ ReprK prog w bs h₀ d.depth v d.shown
  | _, _, .none, _, _ => ⟨[], (fun _ h => nomatch h), by simp only [PyData.shown]; exact .of_is ReprIs.none _ _ _⟩
  | _, _, .bool b, _, _ => ⟨[], (fun _ h => nomatch h), by simp only [PyData.shown]; exact .of_is (ReprIs.bool b) _ _ _⟩
  | _, _, .int i t, hs, _ => ⟨[], (fun _ h => nomatch h), by simp only [PyData.shown]; exact .of_is (ReprIs.int t (by simpa [PyData.showable] using hs)) _ _ _⟩
  | _, _, .str x t, _, hz => ⟨[], (fun _ h => nomatch h), by simp only [PyData.shown]; exact .of_is (ReprIs.str x t (by simpa only [PyData.shown] using hz)) _ _ _⟩
  | _, _, .list (a := a) (vs := vs) (xs := xs) h1 h2 h3 h4, hs, hz => by
    have hz' : (listText (PyData.shownAll xs)).length ≤ sizeLine := by simpa only [PyData.shown] using hz
    obtain ⟨bs, hb, hk⟩ := reprAllK_rdE h4 (by simpa [PyData.showable] using hs) (fun t ht => Nat.le_trans (listText_mem_le ht) hz')
    obtain ⟨as, r4⟩ := RdEs.reads h4
    have r : Reads h₀ (.ref a) (.list xs) _ := .list h1 h2 h3 r4
    have hna : a ∉ bs := not_mem_of_deeper r (by simp only [PyData.depth]; omega) hb
    refine ⟨a :: bs, ReadAtMost.cons r (by simp only [PyData.depth]; omega) hb, ?_⟩
    simp only [PyData.depth, PyData.shown]
    obtain ⟨l⟩ := vs
    cases l with
    | nil =>
      have h4' : ReadsAll h₀ [] xs _ := r4
      cases h4'
      simp only [PyData.shownAll, listText_nil]
      exact ReprK.listEmpty h1 h2 h3
    | cons x l => exact ReprK.list h1 h2 h3 hna (by simpa using hk.length_eq) (fun i y e => hk.item i y (by simpa using e))
  | _, _, .tuple (a := a) (xs := xs) h1 h2 h3 h4, hs, hz => by
    have hz' : (tupleText (PyData.shownAll xs)).length ≤ sizeLine := by simpa only [PyData.shown] using hz
    obtain ⟨bs, hb, hk⟩ := reprAllK_rdE h4 (by simpa [PyData.showable] using hs) (fun t ht => Nat.le_trans (tupleText_mem_le ht) hz')
    obtain ⟨as, r4⟩ := RdEs.reads h4
    have r : Reads h₀ (.ref a) (.tuple xs) _ := .tuple h1 h2 h3 r4
    have hna : a ∉ bs := not_mem_of_deeper r (by simp only [PyData.depth]; omega) hb
    refine ⟨a :: bs, ReadAtMost.cons r (by simp only [PyData.depth]; omega) hb, ?_⟩
    simp only [PyData.depth, PyData.shown]
    exact ReprK.tuple h1 h2 h3 hna hk
  | _, _, .dict (a := a) (es := es) h1 h2 h3 h4 h5, hs, hz => by
    obtain ⟨as, r⟩ := RdE.reads (RdE.dict h1 h2 h3 h4 h5)
    have hb : ReadAtMost h₀ (PyData.depthKv []) [] := fun _ h => nomatch h
    refine ⟨[a], ReadAtMost.cons r (by simp only [PyData.depth]; omega) hb, ?_⟩
    simp only [PyData.depth, PyData.shown, PyData.shownKv_eq]
    exact ReprK.dict h1 h2 h3 h5 (by simp) (by rw [h4]; exact .nil)
theorem reprAllK_rdE : ∀ {vs : List Value} {ds : List PyData}, RdEs h₀ vs ds → PyData.showableAll ds = true → (∀ t ∈ PyData.shownAll ds, t.length ≤ sizeLine) →
    ∃ bs, ReadAtMost h₀ (PyData.depthAll ds) bs ∧ ReprAllK prog w bs h₀ (PyData.depthAll ds) vs (PyData.shownAll ds)
  | _, _, .nil, _, _ => ⟨[], (fun _ h => nomatch h), by simp only [PyData.shownAll]; exact .nil⟩
  | _, _, .cons (d := d) (ds := ds) r rs, hs, hz => by
    have hs' : d.showable = true ∧ PyData.showableAll ds = true := by simpa [PyData.showableAll] using hs
    obtain ⟨b1, hb1, k1⟩ := reprK_rdE r hs'.1 (hz _ (by simp only [PyData.shownAll]; exact List.mem_cons_self ..))
    obtain ⟨b2, hb2, k2⟩ := reprAllK_rdE rs hs'.2 (fun t ht => hz t (by simp only [PyData.shownAll]; exact List.mem_cons_of_mem _ ht))
    refine ⟨b1 ++ b2, ?_, ?_⟩
    · intro b hm
      simp only [PyData.depthAll]
      rcases List.mem_append.mp hm with hm | hm
      · obtain ⟨d', as', r', hd'⟩ := hb1 b hm
        exact ⟨d', as', r', Nat.le_trans hd' (Nat.le_max_left _ _)⟩
      · obtain ⟨d', as', r', hd'⟩ := hb2 b hm
        exact ⟨d', as', r', Nat.le_trans hd' (Nat.le_max_right _ _)⟩
    · simp only [PyData.depthAll, PyData.shownAll]
      exact .cons ((k1.more fun b hb => List.mem_append_left _ hb).level_le (Nat.le_max_left _ _)) (k2.more_le (fun b hb => List.mem_append_right _ hb) (Nat.le_max_right _ _))
end
variable {A : Around} {E : Value → Shared → Prop} {s : Shared} {Q : Value → Shared → Prop}
theorem repr_rdE : ∀ {v : Value} {d : PyData}, RdE s.heap v d → d.showable = true → d.shown.length ≤ sizeLine → A.guards = some [] → A.units + (d.depth + 1) < cLine →
    (∀ h' u tk, (∀ b o, s.heap.get? b = some o → h'.get? b = some o) → Q (.str d.shown u) { s with heap := h', toks := tk }) → wpAny (model prog w) A (call (.builtin "repr") [v]) Q E s
  | _, _, .none, _, _, _, _, hQ => P.repr_of_none (by simpa only [PyData.shown] using hQ s.heap _ _ fun _ _ e => e)
  | _, _, .bool b, _, _, _, _, hQ => P.repr_of_bool (by simpa only [PyData.shown] using hQ s.heap _ _ fun _ _ e => e)
  | _, _, .int i t, hs, _, _, _, hQ => P.repr_of_int (by simpa [PyData.showable] using hs) (by simpa only [PyData.shown] using hQ s.heap _ _ fun _ _ e => e)
  | _, _, .str x t, _, hz, _, _, hQ => P.repr_of_str (by simpa only [PyData.shown] using hQ s.heap _ _ fun _ _ e => e) (by simpa only [PyData.shown] using hz)
  | _, _, .list (a := a) (o := o) (vs := vs) (xs := xs) h1 h2 h3 h4, hs, hz, hg, hu, hQ => by
    have hz' : (listText (PyData.shownAll xs)).length ≤ sizeLine := by simpa only [PyData.shown] using hz
    obtain ⟨bs, hb, hk⟩ := reprAllK_rdE (prog := prog) (w := w) h4 (by simpa [PyData.showable] using hs) (fun t ht => Nat.le_trans (listText_mem_le ht) hz')
    obtain ⟨as, r4⟩ := RdEs.reads h4
    have r : Reads s.heap (.ref a) (.list xs) _ := .list h1 h2 h3 r4
    have hna : a ∉ bs := not_mem_of_deeper r (by simp only [PyData.depth]; omega) hb
    simp only [PyData.depth] at hu
    simp only [PyData.shown] at hQ
    refine call_repr_slot (by omega) (T := "list") ⟨o, h1, h2⟩ F.slot_list_repr.toG ?_
    obtain ⟨l⟩ := vs
    cases l with
    | nil =>
      have h4' : ReadsAll s.heap [] xs _ := r4
      cases h4'
      simp only [PyData.shownAll, listText_nil] at hQ
      exact call_list_repr_empty ⟨o, h1, h2⟩ h1 h3 ⟨_, _, rfl, hQ s.heap _ _ fun _ _ e => e⟩
    | cons x l =>
      exact call_list_reprK h1 h2 h3 hna (by simpa using hk.length_eq) (fun i y e => hk.item i y (by simpa using e)) (show A.in1.guards = some [] from hg) (fun b _ => Clear.nil b) (by show A.units + 1 + _ < cLine; omega) (fun _ _ e => e) (fun h' u tk hk => ⟨_, _, rfl, hQ h' u tk hk⟩) hz'
  | _, _, .tuple (a := a) (o := o) (xs := xs) h1 h2 h3 h4, hs, hz, hg, hu, hQ => by
    have hz' : (tupleText (PyData.shownAll xs)).length ≤ sizeLine := by simpa only [PyData.shown] using hz
    obtain ⟨bs, hb, hk⟩ := reprAllK_rdE (prog := prog) (w := w) h4 (by simpa [PyData.showable] using hs) (fun t ht => Nat.le_trans (tupleText_mem_le ht) hz')
    obtain ⟨as, r4⟩ := RdEs.reads h4
    have r : Reads s.heap (.ref a) (.tuple xs) _ := .tuple h1 h2 h3 r4
    have hna : a ∉ bs := not_mem_of_deeper r (by simp only [PyData.depth]; omega) hb
    simp only [PyData.depth] at hu
    simp only [PyData.shown] at hQ
    refine call_repr_slot (by omega) (T := "tuple") ⟨o, h1, h2⟩ F.slot_tuple_repr ?_
    exact call_tuple_reprK h1 h2 h3 hna hk (show A.in1.guards = some [] from hg) (fun b _ => Clear.nil b) (by show A.units + 1 + _ < cLine; omega) (fun _ _ e => e) (fun h' u tk hk => ⟨_, _, rfl, hQ h' u tk hk⟩) hz'
  | _, _, .dict (a := a) (o := o) (es := es) h1 h2 h3 h4 h5, hs, hz, hg, hu, hQ => by
    simp only [PyData.depth] at hu
    simp only [PyData.shown, PyData.shownKv_eq] at hQ hz
    refine call_repr_slot (by omega) (T := "dict") ⟨o, h1, h2⟩ F.slot_dict_repr ?_
    exact call_dict_reprK (d := PyData.depthKv []) h1 h2 h3 h5 (as := []) (by simp) (by rw [h4]; exact .nil) (show A.in1.guards = some [] from hg) (fun b _ => Clear.nil b) (by show A.units + 1 + _ < cLine; omega) (fun _ _ e => e) (fun h' u tk hk => ⟨_, _, rfl, hQ h' u tk hk⟩) hz
end
mutual
inductive De (K : PySem.W.Frag) (H : Hp) : V → PyData → Prop
  | non : De K H .non .none
  | bl (b : Bool) : De K H (.bl b) (.bool b)
  | int (i : Int) : De K H (.int i) (.int i)
  | str (x : Str) : De K H (.str x) (.str x)
  | lst {a : Addr} {xs : List V} {ds : List PyData} : SqL K H a xs → Des K H xs ds → De K H (.ref a) (.list ds)
  | tup {a : Addr} {xs : List V} {ds : List PyData} : SqT K H a xs → Des K H xs ds → De K H (.ref a) (.tuple ds)
  | dct {a : Addr} : H a = some (.dK []) → De K H (.ref a) (.dict [])
inductive Des (K : PySem.W.Frag) (H : Hp) : List V → List PyData → Prop
  | nil : Des K H [] []
  | cons {v : V} {vs : List V} {d : PyData} {ds : List PyData} : De K H v d → Des K H vs ds → Des K H (v :: vs) (d :: ds)
end
section
variable {X : Cx} {pins : List (Addr × Obj)} {σ : L2.St} {H : Hp} {s : Shared}
mutual
theorem De.rd (I : Inv X pins σ H s) : ∀ {v : V} {d : PyData} {u : Value}, De X.K H v d → RelV v u → RdE s.heap u d
  | _, _, _, .non, r => by
    cases r
    exact .none
  | _, _, _, .bl b, r => by
    cases r
    exact .bool b
  | _, _, _, .int i, r => by
    obtain ⟨t, rfl⟩ := r
    exact .int i t
  | _, _, _, .str x, r => by
    obtain ⟨t, rfl⟩ := r
    exact .str x t
  | _, _, _, .lst h hs, r => by
    cases r
    obtain ⟨its, rv, ⟨o, n, ho, hc, _, hd⟩, _⟩ := I.list h
    exact .list ho hc hd (Des.rd I hs rv)
  | _, _, _, .tup h hs, r => by
    cases r
    obtain ⟨its, rv, ⟨o, ho, hc, n, hd⟩, _⟩ := I.tuple h
    exact .tuple ho hc hd (Des.rd I hs rv)
  | _, _, _, .dct h, r => by
    cases r
    obtain ⟨_, hsys, vs, kv, o, es, ep, ho, hex, hd, _, hp, _⟩ := I.hok _ _ h
    cases kv
    have he : es.toList = [] := by
      cases e : es.toList with
      | nil => rfl
      | cons x l =>
        rw [e] at hp
        cases hp
    exact .dict ho hex.1 hd he hsys
theorem Des.rd (I : Inv X pins σ H s) : ∀ {vs : List V} {ds : List PyData} {us : List Value}, Des X.K H vs ds → Vals vs us → RdEs s.heap us ds
  | _, _, _, .nil, r => by
    cases r
    exact .nil
  | _, _, _, .cons h hs, r => by
    cases r with
    | cons r1 r2 => exact .cons (De.rd I h r1) (Des.rd I hs r2)
end
end
mutual
def D.rd : D → Option PyData
  | .non => some .none
  | .bl b => some (.bool b)
  | .int i => some (.int i)
  | .str x => some (.str x)
  | .tup ds => (D.rds ds).map .tuple
  | .lst ds => (D.rds ds).map .list
  | .dct ks _ => if ks.isEmpty then some (.dict []) else none
  | .ins _ _ _ => none
def D.rds : List D → Option (List PyData)
  | [] => some []
  | d :: ds => match d.rd, D.rds ds with
    | some p, some ps => some (p :: ps)
    | _, _ => none
end
section
variable {B : Bd} {G H : Hp}
mutual
theorem Rep.de (x : Ex G H) : ∀ {v : V} {d : D} {p : PyData}, Rep B G v d → d.rd = some p → De B.K H v p
  | _, _, _, .non, e => by
    simp only [D.rd, Option.some.injEq] at e
    subst e
    exact .non
  | _, _, _, .bl b, e => by
    simp only [D.rd, Option.some.injEq] at e
    subst e
    exact .bl b
  | _, _, _, .int b, e => by
    simp only [D.rd, Option.some.injEq] at e
    subst e
    exact .int b
  | _, _, _, .str b, e => by
    simp only [D.rd, Option.some.injEq] at e
    subst e
    exact .str b
  | _, _, _, .tup h r, e => by
    simp only [D.rd, Option.map_eq_some_iff] at e
    obtain ⟨ps, e1, rfl⟩ := e
    exact .tup (x.sqt h.sqt) (Reps.de x r e1)
  | _, _, _, .lst h r, e => by
    simp only [D.rd, Option.map_eq_some_iff] at e
    obtain ⟨ps, e1, rfl⟩ := e
    exact .lst (x.sl h).sq (Reps.de x r e1)
  | _, _, _, .dct (kvs := kvs) h hk _, e => by
    simp only [D.rd] at e
    split at e
    · rename_i z
      cases e
      have : kvs = [] := by
        rw [List.isEmpty_iff] at z
        subst z
        simpa using hk
      subst this
      exact .dct (x _ _ h)
    · cases e
  | _, _, _, .ins _ _ _ _, e => by simp [D.rd] at e
  | _, _, _, .exc _ _, e => by simp [D.rd] at e
theorem Reps.de (x : Ex G H) : ∀ {vs : List V} {ds : List D} {ps : List PyData}, Reps B G vs ds → D.rds ds = some ps → Des B.K H vs ps
  | _, _, _, .nil, e => by
    simp only [D.rds, Option.some.injEq] at e
    subst e
    exact .nil
  | _, _, _, .cons (d := d) (ds := ds) h r, e => by
    simp only [D.rds] at e
    cases e1 : d.rd with
    | none => simp [e1] at e
    | some p =>
      cases e2 : D.rds ds with
      | none => simp [e1, e2] at e
      | some ps =>
        simp only [e1, e2, Option.some.injEq] at e
        subst e
        exact .cons (Rep.de x h e1) (Reps.de x r e2)
end
def rReprA (K : PySem.W.Frag) : List V → Hp → VK → Prop := fun xs H Q => ∃ x p, xs = [x] ∧ De K H x p ∧ p.showable = true ∧ p.depth ≤ 64 ∧ p.shown.length ≤ sizeLine ∧ Q (.str p.shown) H
theorem call_reprA {X : Cx} (hg : X.A.guards = some []) (hu : X.A.units + 70 < cLine) : CallR X (.builtin "repr") (rReprA X.K) := by
  intro pins s sg H xs us Q I r h
  obtain ⟨x, p, rfl, hd, h1, h3, h4, q⟩ := h
  obtain ⟨u, rfl, rx⟩ := vals1 r
  exact repr_rdE (De.rd I hd rx) h1 h4 hg (by omega) fun h' t tk hk => ⟨.str p.shown, H, I.kept (t' := tk) hk, ⟨t, rfl⟩, q⟩
def dReprA : List D → R D
  | [d] => match d.rd with
    | some p => if p.showable = true ∧ p.depth ≤ 64 ∧ p.shown.length ≤ 16777216 then .ok (.str p.shown) else stuck
    | none => stuck
  | _ => stuck
theorem cd_reprA : CallD B (rReprA B.K) dReprA := fun G H W Ga fps sg rho shs ds vs Q a vl f p => by
  unfold dReprA at p
  split at p
  · rename_i x e
    obtain ⟨sh, v, d, rfl, rfl, rfl, e1, v1⟩ := vl.one e
    obtain ⟨G1, _, x1, r1⟩ := a.view v1 (seen_of (by simpa using f))
    rw [e1] at r1
    split at p
    · rename_i pd e2
      split at p
      · rename_i hc
        exact ⟨v, pd, rfl, r1.de x1 e2, hc.1, hc.2.1, small_line hc.2.2, Post.flat a p (.str _)⟩
      · exact p.elim
    · exact p.elim
  · exact p.elim
theorem DE.reprA {I : Type} {X : Cf I} {W : WX} {k : Nat} {tr : TA} {Ga Ga1 shs : List Sh} {fs : Fs} {e : Expr} {p pos : Pos} (hr : RoomG k X.A) (hm : X.mg "repr" = none) (ha : DA X W tr Ga [e] Ga1 shs fs) (f : shs.all (seen1 Ga1) = true := by rfl) (hg : ∀ ii, Gl (X.at ii) "repr" := by intro _; rfl)
    (he : ∀ ii, starEach [e] (X.env ii) = (false, eval e (X.env ii)) :: starEach [] (X.env ii) := by intro _; rfl) (hpl : ∀ ii, (backTo pos (starEach [] (X.env ii))).any (·.1) = false := by intro _; rfl) :
    DE X W (tCB (rReprA X.K) tr) Ga (.Call (.Name "repr" p) [e] [] pos) Ga1 .s (fCall dReprA shs fs) :=
  have hu : X.A.units + 70 < cLine := by have := hr.r.un; omega
  DE.callB (fun _ => call_reprA hr.g hu) cd_reprA PyProof.Rows.boot_repr hm ha f hg (by decide) (by decide) he hpl
end
end EB
namespace EB
open PySem PySem.Spec PyProof.Rows L2
/-! ### defs that may run while an exception is handled: no loops, no raising within -/
structure RoomN (k : Nat) (A : Around) : Prop where
  dp : A.depth + 3 * k + 5 < recursionLimit
  un : A.units + 16 * k + 200 < cLine
  g : A.guards = some []
theorem RoomN.mono {j k : Nat} {A : Around} (r : RoomN k A) (h : j ≤ k) : RoomN j A := ⟨by have := r.dp; omega, by have := r.un; omega, r.g⟩
theorem RoomN.deeper {k : Nat} {A : Around} (r : RoomN (k + 1) A) (env : Env) : RoomN k (A.deeper env) :=
  ⟨by have := r.dp; show A.depth + 1 + 3 * k + 5 < _; omega, by have := r.un; show A.units + 3 + 16 * k + 200 < _; omega, r.g⟩
theorem RoomG.n {k : Nat} {A : Around} (r : RoomG k A) : RoomN k A := ⟨r.r.dp, r.r.un, r.g⟩
theorem RoomN.mark {k : Nat} {A : Around} (r : RoomN k A) (e : Option Value) : RoomN k (A.mark e) := ⟨r.dp, r.un, r.g⟩
theorem hu65N {k : Nat} {A : Around} (hr : RoomN k A) : A.units + 65 < cLine := by
  have := hr.un
  omega
abbrev cxN (CX : CXT) (P : Program) (w : World) (K : PySem.W.Frag) (mg : Str → Option Value) (base : Heap) (N : List Str) (qual : Str) (scope : Scope) (f : Addr) (cd : Value) (A : Around) (outer : List Env) (s : Shared) (H : Hp) (E : XK) : Cx :=
  { cxOf CX P w K mg base N qual scope f cd A outer s H E with calm := false }
theorem inv_startN {CX : CXT} {P : Program} {w : World} {K : PySem.W.Frag} {mg : Str → Option Value} {base : Heap} {N ps : List Str} {qual : Str} {scope : Scope} {f : Addr} {cd : Value} {A : Around} {outer : List Env} {s s1 : Shared} {H : Hp} {E : XK} {us : List Value} {vs : List V}
    (S : FnScope N ps scope) (e0 : Env0 P w K mg base A outer s H) (hl : vs.length = ps.length) (r : Vals vs us)
    (x : InCallC s s.heap.objs.size (bindL (envOfC qual scope s.heap.objs.size f cd).kindOf (ps.zip us) fun _ => none) (cellsFrom (s.heap.objs.size + 1) scope.names []) (bindC (envOfC qual scope s.heap.objs.size f cd).kindOf (ps.zip us) fun _ => none) s1) :
    Inv (cxN CX P w K mg base N qual scope f cd A outer s H E) [] (L2.start N vs) H s1 := by
  have hpl : ps.length ≤ N.length := by have := congrArg List.length S.pre; rw [List.length_take] at this; omega
  obtain ⟨h1, tk, rfl, hk⟩ := x.done
  have noA : ∀ b : Addr, b ∉ (cxN CX P w K mg base N qual scope f cd A outer s H E).ex := fun b z => absurd (show b ∈ ([] : List Addr) from z) (by simp)
  refine ⟨⟨e0.mod, S.kind, rfl, rfl, Nat.le_refl _, fun y z c h1 h2 => ?_, fun y hy => ?_, fun y c _ h => ?_, (fun z => Bool.noConfusion (show false = true from z)), Around.frames_deeper e0.frames, .inr ⟨rfl, rfl⟩, fun b z => absurd z (noA b), e0.bs, e0.bsz, fun b _ _ => noA b, fun b z => absurd z (noA b), e0.funs, e0.frf⟩,
    rfl, e0.bare, Un.kept hk, ⟨_, x.toInCall.ns, fun i y v h1 h2 h3 => ?_⟩, fun y c h => ⟨_, x.cell y c h⟩, e0.hok.fresh (Nat.le_refl _), fun y c h => ?_, fun p hp => absurd (show p ∈ ([] : List (Addr × Obj)) from hp) (by simp), e0.hok.kept hk, ?_⟩
  · exact name_of_addr x.apart (PySem.mem_of_lookup h1) (PySem.mem_of_lookup h2)
  · have hy : scope.names.lookup y = some .cell ∨ scope.names.lookup y = some .free := hy
    rcases hy with hy | hy
    · exact cell_has hy
    · exact absurd rfl (S.nofree _ (PySem.mem_of_lookup hy))
  · exact Nat.le_of_lt (x.above y c (PySem.mem_of_lookup h))
  · have hi : i < vs.length := by
      unfold L2.start at h2
      by_cases hi : i < vs.length
      · exact hi
      · rw [List.getElem?_append_right (by simpa using hi)] at h2
        rw [List.getElem?_replicate] at h2
        split at h2 <;> cases h2
    have ha : vs[i]? = some v := by
      unfold L2.start at h2
      rw [List.getElem?_append_left (by simpa using hi), List.getElem?_map] at h2
      cases e : vs[i]? with
      | none => rw [e] at h2; cases h2
      | some a => rw [e] at h2; cases h2; rfl
    obtain ⟨u, hu, rv⟩ := r.get ha
    have hp : ps[i]? = some y := by
      rw [← S.pre, List.getElem?_take_of_lt (by omega)]; exact h1
    have ndP : ps.Nodup := by rw [← S.pre]; exact S.nd.sublist (List.take_sublist _ _)
    refine ⟨u, rv, ?_⟩
    rcases S.par y (List.mem_of_getElem? hp) with k | k
    · exact .inl ⟨k, bindL_get ndP hp hu k⟩
    · obtain ⟨c, e⟩ := cell_has (n := s.heap.objs.size + 1) k
      refine .inr ⟨.inl k, c, e, ?_⟩
      have q := x.cell y c e
      rw [bindC_get ndP hp hu (by show scope.names.lookup y ≠ _; rw [k]; decide)] at q
      exact q
  · exact e0.hok.fresh (Nat.le_of_lt (x.above y c (PySem.mem_of_lookup h)))
  · unfold L2.start
    show _ = N.length
    rw [List.length_append, List.length_map, List.length_replicate]
    omega
structure FnN (P : Program) (w : World) (K : PySem.W.Frag) (mg : Str → Option Value) (base : Heap) (CX : CXT) (k : Nat) (f : Addr) (fd : FuncData) (ps : List Str) (sp : Sp) : Prop where
  len : ∀ vs H Q E, sp vs H Q E → vs.length = ps.length
  run : ∀ (A : Around) (outer : List Env) (s : Shared) (H : Hp) (args : Args) (us : List Value) (vs : List V) (Q : VK) (E : XK), RoomN k A → Env0 P w K mg base A outer s H → BindsTo s fd args (ps.zip us) → Vals vs us → sp vs H Q E →
    codeAny (model P w) A (.call (.ref f) args) (CR CX outer P w H s Q E) s
theorem FnN.mono {P : Program} {w : World} {K : PySem.W.Frag} {mg : Str → Option Value} {base : Heap} {CX : CXT} {j k : Nat} {f : Addr} {fd : FuncData} {ps : List Str} {sp : Sp} (F : FnN P w K mg base CX j f fd ps sp) (h : j ≤ k) : FnN P w K mg base CX k f fd ps sp :=
  ⟨F.len, fun A outer s H args us vs Q E g => F.run A outer s H args us vs Q E (g.mono h)⟩
theorem FnN.g {P : Program} {w : World} {K : PySem.W.Frag} {mg : Str → Option Value} {base : Heap} {CX : CXT} {k : Nat} {f : Addr} {fd : FuncData} {ps : List Str} {sp : Sp} (F : FnN P w K mg base CX k f fd ps sp) : FnG P w K mg base CX k f fd ps sp :=
  ⟨F.len, fun A outer s H args us vs Q E g => F.run A outer s H args us vs Q E g.n⟩
theorem fnN_of {CX : CXT} {P : Program} {w : World} {K : PySem.W.Frag} {mg : Str → Option Value} {base : Heap} {k : Nat} {f : Addr} {name qual : Str} {params : Arguments} {body : List Stmt} {scope : Scope} {dV kV doc pm cdv ct oc : Value} {an od : Option Addr}
    {osl : Array (Option Value)} {N ps : List Str} {sp : Sp} (lk : K.lookup f = some ⟨oc, od, .func (PySem.W.fnOf name qual params body scope dV kV doc pm an cdv ct), osl⟩) (hcd : PySem.W.codeIn K cdv qual = true) (S : FnScope N ps scope)
    (len : ∀ vs H Q E, sp vs H Q E → vs.length = ps.length)
    (hbody : ∀ (A : Around) (outer : List Env) (s : Shared) (H : Hp) (vs : List V) (Q : VK) (E : XK), RoomN k (A.deeper (envOfC qual scope s.heap.objs.size f cdv)) → sp vs H Q E →
      ∃ t, PSs (cxN CX P w K mg base N qual scope f cdv A outer s H E) body t ∧ t { nx := fun _ H' => Q .non H', rt := Q } (L2.start N vs) H) :
    FnN P w K mg base CX (k + 1) f (PySem.W.fnOf name qual params body scope dV kV doc pm an cdv ct) ps sp := by
  refine ⟨len, fun A outer s H args us vs Q E rg en bi rv promise => ?_⟩
  have lenE := len _ _ _ _ promise
  have inK : K.In s.heap := en.mod.kin.keeps fun b o z => (en.bs b o z).1
  have nolim : s.heap.NoLimit := en.mod.nolimit.keeps fun b o z => (en.bs b o z).1
  have kinds : ∀ y ∈ ps.zip us, scope.names.lookup y.1 = some .local ∨ (scope.names.lookup y.1 = some .cell ∧ ((cellsFrom (s.heap.objs.size + 1) scope.names []).lookup y.1).isSome = true) := fun ⟨n, v⟩ hy =>
    (S.par n (List.of_mem_zip hy).1).imp id fun q => ⟨q, PySem.W.cellsFrom_some _ _ _ (.inl q)⟩
  refine codeAny_call_function (by have := rg.dp; omega) (inK _ _ lk) rfl S.co S.gen rfl (PySem.W.codeRec_of inK hcd) (bi _ _ _ _ (wpAny_newFunctionEnv_cells S.kind kinds fun env eqE s1 x => ?_))
  subst eqE
  refine ⟨nolim.keeps x.toInCall.keep, codeAny_func ?_⟩
  obtain ⟨t, ht, q0⟩ := hbody A outer s H vs Q E (rg.deeper _) promise
  have J0 : Inv (cxN CX P w K mg base N qual scope f cdv A outer s H E) [] (L2.start N vs) H s1 := inv_startN S en lenE rv x
  have ends : ∀ {sg : L2.St} {H2 : Hp} {v : V} {u : Value} {s2 : Shared}, Inv (cxN CX P w K mg base N qual scope f cdv A outer s H E) [] sg H2 s2 → RelV v u → Q v H2 → CE outer P w H s Q u s2 :=
    fun {sg H2 v u s2} J r1 q1 => ⟨v, H2, J.os, J.bare, J.base, J.hok, r1, q1⟩
  refine wpAny_mono (ht.run [] s1 (L2.start N vs) H _ J0 q0) (fun fl s2 hs => ?_) fun _ _ z => z
  cases fl with
  | brk =>
    obtain ⟨_, _, _, z⟩ := hs
    exact z.elim
  | cont =>
    obtain ⟨_, _, _, z⟩ := hs
    exact z.elim
  | next =>
    obtain ⟨sg, H2, J, q⟩ := hs
    exact ends (v := V.non) (u := Value.none) J rfl q
  | ret u =>
    obtain ⟨v, sg, H2, J, r1, q⟩ := hs
    exact ends J r1 q
structure DefN (P : Program) (w : World) (K : PySem.W.Frag) (mg : Str → Option Value) (base : Heap) (k : Nat) (x : Str) (ps : List Str) (Gp Mp : List Sh) (rs : Sh) (m : Fn) : Prop where
  ex : ∃ (f : Addr) (fd : FuncData), mg x = some (.ref f) ∧ PySem.W.keepIn K (.ref f) = true ∧ Binds K fd ps [] ∧ FnN P w K mg base (L2.CX P w) k f fd ps (spOf ⟨K, mg⟩ Gp Mp rs m)
theorem DefN.mono {P : Program} {w : World} {K : PySem.W.Frag} {mg : Str → Option Value} {base : Heap} {k j : Nat} {x : Str} {ps : List Str} {Gp Mp : List Sh} {rs : Sh} {m : Fn} (d : DefN P w K mg base k x ps Gp Mp rs m) (h : k ≤ j) : DefN P w K mg base j x ps Gp Mp rs m := by
  obtain ⟨f, fd, h1, h2, h3, h4⟩ := d.ex
  exact ⟨f, fd, h1, h2, h3, h4.mono h⟩
theorem DefN.g {P : Program} {w : World} {K : PySem.W.Frag} {mg : Str → Option Value} {base : Heap} {k : Nat} {x : Str} {ps : List Str} {Gp Mp : List Sh} {rs : Sh} {m : Fn} (d : DefN P w K mg base k x ps Gp Mp rs m) : Def P w K mg base k x ps Gp Mp rs m := by
  obtain ⟨f, fd, h1, h2, h3, h4⟩ := d.ex
  exact ⟨f, fd, h1, h2, h3, h4.g⟩
abbrev CtxN (P : Program) (w : World) (K : PySem.W.Frag) (mg : Str → Option Value) (base : Heap) (N : List Str) (qual : Str) (st : Stmt) (f : Addr) (cdv : Value) (A : Around) (outer : List Env) (s : Shared) (H : Hp) (E : XK) : Cx :=
  cxN (L2.CX P w) P w K mg base N qual (defScope st) f cdv A outer s H E
theorem def_okN {P : Program} {w : World} {K : PySem.W.Frag} {mg : Str → Option Value} {base : Heap} {k n : Nat} {x : Str} {st : Stmt} {f : Addr} {fd : FuncData} {N ps : List Str} {Gp Mp : List Sh} {rs : Sh} {fb : Fst} {Pn : List Nat} {M : List Sh}
    (F : Fun K x x st f fd) (S : FnScope N ps (defScope st)) (hm : mg x = some (.ref f)) (hb : Binds K fd ps []) (G0 : List Sh)
    (body : ∀ (cdv : Value) (A : Around) (outer : List Env) (s : Shared) (H : Hp) (E : XK), RoomN k (CtxN P w K mg base N x st f cdv A outer s H E).A → Takes (CtxN P w K mg base N x st f cdv A outer s H E) (WEx E) →
      PassesOwn (model P w) (CtxN P w K mg base N x st f cdv A outer s H E).A (CtxN P w K mg base N x st f cdv A outer s H E).env (CtxN P w K mg base N x st f cdv A outer s H E).xe →
      ∃ ts, DB (Cf.of (CtxN P w K mg base N x st f cdv A outer s H E)) (WEx E) ⟨Pn, M, rs, [], []⟩ ts G0 (defBody st) M fb)
    (hG : Gp ++ List.replicate n .u = G0 := by rfl)
    (hn : N.length = Gp.length + n := by rfl) (hps : ps.length = Gp.length := by rfl) (hM : M.take Gp.length = Mp := by rfl) (hMl : Mp.length = Gp.length := by rfl) (hP : (List.range Gp.length).all (fun i => Pn.contains i || (match Mp[i]? with | some .u => true | _ => false)) = true := by rfl) :
    DefN P w K mg base (k + 1) x ps Gp Mp rs (runB rs fb n) := by
  subst hG
  refine ⟨f, fd, hm, F.kp, hb, ?_⟩
  obtain ⟨oc, od, kV, doc, pm, an, cdv, ct, osl, e, lk, hc⟩ := F.ex
  subst e
  refine fnN_of lk hc S (fun vs H Q E h => h.1.trans hps.symm) fun A outer s H vs Q E hr h => ?_
  obtain ⟨ts, d⟩ := body cdv A outer s H E hr (takes_of rfl rfl rfl rfl) (passes_of rfl)
  refine ⟨ts, d.pe (), sp_body (W := WEx E) d.sm (fun _ _ _ h => h) hn hM hMl (fun i hi hl => ?_) h⟩
  have z := List.all_eq_true.mp hP i (List.mem_range.mpr hl)
  rw [Bool.or_eq_true] at z
  rcases z with z | z
  · exact List.contains_iff_mem.mp z
  · split at z
    · rename_i e
      exact absurd e hi
    · cases z
section
variable {X : Cx} {CX : CXT} {k : Nat} {f C : Addr} {fd : FuncData} {ps : List Str} {sp : Sp} {E : L2.St → XK} {x m : Str} {p pos apos : Pos} {e o : Expr} {es : List Expr} {ta : TE} {t : TA}
theorem run_fnN {pins : List (Addr × Obj)} {sg : L2.St} {H : Hp} {s : Shared} {Q : VK} {us : List Value} {vs : List V} (F : FnN X.prog X.w X.K X.mg X.base CX k f fd ps sp) (hr : RoomN k X.A) (hb : Binds X.K fd ps []) (hx : PassesAt CX X sg (E sg))
    (I : Inv X pins sg H s) (r : Vals vs us) (h : sp vs H Q (E sg)) : wpAny (model X.prog X.w) X.A (call (.ref f) us) (EP X pins sg Q) X.xe s := by
  have b := hb s us I.kIn (by rw [List.append_nil, ← r.length]; exact F.len _ _ _ _ h)
  rw [List.append_nil] at b
  refine wpAny_call (codeAny_mono (F.run X.A X.stack s H ⟨us, []⟩ us vs Q (E sg) hr I.env0 b r h) fun res s2 hq => ?_)
  match res, hq with
  | .error er, hq => exact hx pins H s er s2 I hq
  | .ok (.ret u), hq => exact I.after hq
theorem pe_callN (F : FnN X.prog X.w X.K X.mg X.base CX k f fd ps sp) (hr : RoomN k X.A) (hg : Gl X x) (hm : X.mg x = some (.ref f)) (hk : PySem.W.keepIn X.K (.ref f) = true) (hb : Binds X.K fd ps []) (hx : ∀ sg, PassesAt CX X sg (E sg))
    (ha : PA X (e :: es) t) (hdb : (x == ("__debug__" : Str)) = false) (he : starEach (e :: es) X.env = (false, eval e X.env) :: starEach es X.env) (hpl : (backTo pos (starEach es X.env)).any (·.1) = false) :
    PE X (.Call (.Name x p) (e :: es) [] pos) (tCallS sp E t) :=
  ⟨fun pins s sg H Q I h => wpAny_Call_Name_kw (ld_glob I hg hm (PySem.W.callWith_K (h₀ := X.base) I.ok.mod.kin hk (thn (ha.run pos pins s sg H _ I h) fun us s1 ⟨vs, H1, I1, r, q⟩ => ⟨I1.kIn, run_fnN F hr hb (hx sg) I1 r q⟩) he hpl) hdb)⟩
end
theorem DE.ownN {I : Type} {X : Cf I} {W : WX} {k j : Nat} {x : Str} {ps : List Str} {tr : TA} {Ga Ga1 Gp Mp shs : List Sh} {rs : Sh} {fs : Fs} {m : Fn} {e : Expr} {es : List Expr} {p pos : Pos} (ow : List (Nat × Nat)) (d : DefN X.prog X.w X.K X.mg X.base k x ps Gp Mp rs m) (hr : RoomN j X.A) (tk : ∀ ii, Takes (X.at ii) W) (hk : decide (k ≤ j) = true)
    (ha : DA X W tr Ga (e :: es) Ga1 shs fs) (ok : argOk Ga1 Gp shs = true := by rfl) (hn : (shs.filterMap Sh.slot).Nodup := by decide) (hs : shs.filterMap Sh.slot = ow.map (·.2) := by rfl) (hj : (ow.map (·.1)).Nodup := by decide)
    (hf : ow.all (owFit shs Gp.length) = true := by rfl) (hl : (ow.map (·.2)).all (fun i => decide (i < Ga1.length)) = true := by rfl) (hM : Mp.length = Gp.length := by rfl) (hb : backSh Mp (drops Ga1 (ow.map (·.2))) ow = Ga1 := by rfl) (hg : ∀ ii, Gl (X.at ii) x := by intro _; rfl)
    (hdb : (x == ("__debug__" : Str)) = false := by decide) (he : ∀ ii, starEach (e :: es) (X.env ii) = (false, eval e (X.env ii)) :: starEach es (X.env ii) := by intro _; rfl) (hpl : ∀ ii, (backTo pos (starEach es (X.env ii))).any (·.1) = false := by intro _; rfl) :
    DE X W (tCallS (spOf (bd X) Gp Mp rs m) (WE W) tr) Ga (.Call (.Name x p) (e :: es) [] pos) Ga1 rs (fOwn m shs ow fs) := by
  obtain ⟨f, fd, h1, h2, h3, h4⟩ := d.ex
  exact ⟨fun ii => pe_callN h4 (hr.mono (of_decide_eq_true hk)) (hg ii) h1 h2 h3 (fun sg => passAt (tk ii) sg) (ha.pe ii) hdb (he ii) (hpl ii), Sem.own ow ha.sm ok hn hs hj hf hl hM hb⟩

/-! ### a thing that stands there is tracked from now on -/
theorem inv_track {X : Cx} {pins : List (Addr × Obj)} {σ : L2.St} {H : Hp} {s : Shared} {a : Addr} {o : HO} {oe : Obj} {vs : Array Value} (I : Inv X pins σ H s) (n0 : X.s_0.heap.get? a = none) (na : H a = none) (nL : a ≠ X.env.locals) (he : s.heap.get? a = some oe) (hd : oe.data = .fields vs)
    (np : ∀ p ∈ X.pn ++ pins, p.1 ≠ a) (new : ObjOk X.prog X.w (upd H a o) s.heap a o) : Inv X pins σ (upd H a o) s where
  ok := I.ok
  os := I.os
  bare := I.bare
  base := ⟨I.base.keep, I.base.slot, fun b ob e n hx => by
    have hb : b ≠ a := fun z => by
      rw [z, n0] at e
      cases e
    rw [upd_ne hb]
    exact I.base.free b ob e n hx, I.base.there, fun b xs e => by
    have q := I.base.tups b xs e
    rw [upd_ne (ne_of_none q na)]
    exact q, fun b ob u e => by
    have q := I.base.frzs b ob u e
    rw [upd_ne (ne_of_none q na)]
    exact q, fun b ps e => by
    obtain ⟨m, q⟩ := I.base.tbls b ps e
    exact ⟨m, by rw [upd_ne (ne_of_none q na)]; exact q⟩⟩
  loc := I.loc
  cell := I.cell
  free := by
    rw [upd_ne (fun z => nL z.symm)]
    exact I.free
  freeC := fun x c e => by
    have hc : c ≠ a := fun z => by
      obtain ⟨v, o', e', d'⟩ := I.cell x c e
      rw [z, he] at e'
      cases e'
      rw [hd] at d'
      cases d'
    rw [upd_ne hc]
    exact I.freeC x c e
  pin := fun p hp => by
    obtain ⟨e, n, ne, nf, d⟩ := I.pin p hp
    exact ⟨e, by rw [upd_ne (np p hp)]; exact n, ne, nf, d⟩
  hok := fun b u e => by
    by_cases hb : b = a
    · subst hb
      rw [upd_same] at e
      cases e
      exact new
    · rw [upd_ne hb] at e
      exact (I.hok b u e).stay (fun c v _ q => q) (fun c q => by rw [upd_ne (ne_of_none q na)]; exact q) fun c xs q => by rw [upd_ne (ne_of_none q na)]; exact q
  len := I.len
theorem exT_ok {P : Program} {w : World} {H : Hp} {h : Heap} {a : Addr} {cls : Value} {oe : Obj} {vs : Array Value} (e : h.get? a = some oe) (z : Zc cls none oe) (d : oe.data = .fields vs) : ObjOk P w H h a (ExT cls a) :=
  ⟨⟨oe, vs, e, z, d⟩, ⟨oe, e⟩, fun _ _ ⟨o, v, q, r⟩ k => ⟨o, v, k o q, r⟩⟩
/-! ### try: body, except x as n: suite; what is caught is tracked -/
def wAsT (K : PySem.W.Frag) (c : Value) (i : Nat) (ts : Addr → TS) (D : Ends) : WX := fun cls d σ H =>
  d = none ∧ PySem.W.exmOne K cls c = some true ∧ ∀ a, H a = none → ts a { nx := fun σ' H' => D.nx (σ'.set i none) H', rt := D.rt, bk := fun σ' H' => D.bk (σ'.set i none) H', ct := fun σ' H' => D.ct (σ'.set i none) H' } (σ.set i (some (.ref a))) (upd H a (ExT cls a))
section
variable {X : Cx} {x n : Str} {c : Value} {i : Nat} {body suite : List Stmt} {b₀ : Stmt} {np pos pos' : Pos} {tb : WX → TS} {ts : Addr → TS}
theorem ps_try_asT (hs : X.stack = X.env :: X.outer) (hf : X.env.frame = some X.env.locals) (hex : X.ex = []) (hN : X.N.Nodup) (hi : X.N[i]? = some n) (hln : X.env.kindOf n = some .local) (hc : Names X x c)
    (hb : ∀ (W : WX) (pn : List (Addr × Obj)) (xe : Value → Shared → Prop), Takes (X.tr pn xe) W → PassesOwn (model X.prog X.w) X.A X.env xe → PSs (X.tr pn xe) body (tb W))
    (hsu : ∀ (a : Addr) (pn : List (Addr × Obj)), PSs (X.suite a pn) (b₀ :: suite) (ts a)) :
    PS X (.Try body [.ExceptHandler (some (.Name x np)) (some n) (b₀ :: suite) pos'] [] [] pos) (fun D σ H => tb (wAsT X.K c i ts D) D σ H) := by
  refine ⟨fun pins s σ H D I h => ?_⟩
  have ok := I.ok
  have hfr : X.A.frames = some (X.env :: X.outer) := by rw [ok.frames, hs]
  have hloc : Loc X.env.scope n := .inl hln
  refine wpAny_Try_except ?_
  refine wpAny_mono ((hb (wAsT X.K c i ts D) (X.pn ++ pins) (fun e s₁ => wpAny (model X.prog X.w) X.A (noteFrame e X.env) (fun _ s₂ => wpAny (model X.prog X.w) X.A (setFlight e none) (fun _ s₃ =>
    wpAny (model X.prog X.w) X.A (handleBy e X.env [.ExceptHandler (some (.Name x np)) (some n) (b₀ :: suite) pos']) (SP X pins D) X.xe s₃) X.xe s₂) X.xe s₁) (fun u s' xx => ?_) PassesOwn.looking).run [] s σ H D (I.toTry _) h) (fun f s1 hsp => ?_) (fun e s1 he => he)
  · obtain ⟨a, B, sI, pins', σ', H', cls, d, rfl, J', nb, up, sky, na, os, ag, rfl, hb1, hyes⟩ := xx
    have J : Inv X pins σ' H' sI := J'.ofTry ok
    have sky' : Sky B (X.env :: X.outer) a (Zc cls none) X.env.locals s'.heap := by rw [← hs]; exact sky
    show wpAny (model X.prog X.w) X.A (noteFrame (.ref a) X.env) _ _ _
    refine Sky.land Zc.steady hfr hf sky' fun h3 fl3 up3 => ?_
    have J3 : Inv X pins σ' H' { s' with heap := h3 } := J.landed nb fl3.1 (up.trans up3) os ag
    obtain ⟨oe3, vs3, he3, hz3, hd3⟩ := fl3.there
    have notFr : ∀ {h : Heap} {o : Obj} {vs : Array Value}, h.FunFrames B (X.env :: X.outer) → h.get? a = some o → o.data = .fields vs → a ∉ frs (X.env :: X.outer) := fun {h o vs} ff e dd hm => by
      obtain ⟨_, o', e', hnf⟩ := ff.mem hm
      rw [e] at e'; cases e'
      exact hnf _ dd
    have nfr := notFr fl3.2.2.1 he3 hd3
    have nL : a ≠ X.env.locals := fun z => nfr (List.mem_filterMap.mpr ⟨X.env, List.mem_cons_self, by rw [hf, z]⟩)
    have nF : a ∉ X.fs := fun hm => by
      obtain ⟨e, he, q⟩ := List.mem_filterMap.mp hm
      exact nfr (List.mem_filterMap.mpr ⟨e, List.mem_cons_of_mem _ he, q⟩)
    have nI : sI.heap.get? a = none := by
      cases e : sI.heap.get? a with
      | none => rfl
      | some o =>
        have z := nb a o e (by rw [hs]; exact nfr)
        rw [fl3.2.1] at z
        cases z
    have n0 : X.s_0.heap.get? a = none := by
      cases e : X.s_0.heap.get? a with
      | none => rfl
      | some o =>
        obtain ⟨o', z⟩ := J.base.there a o e (by rw [hex]; exact fun z => nomatch z)
        rw [nI] at z
        cases z
    have np' : ∀ p ∈ X.pn ++ pins, p.1 ≠ a := fun p hp z => by
      have := (J.pin p hp).1
      rw [z, nI] at this
      cases this
    have S3 := J3.suite he3 hd3 na nL nF
    refine wpAny_handleBy_cons (codeAny_handlers_test ?_) (by intro q; cases q)
    have LT : PySem.W.Looks (model X.prog X.w) h3 (typeOf (.ref a)) cls := fun A Q E s k q => wpAny_typeOf_ref (k _ _ he3) (by rw [hz3.1]; exact q)
    have LM := PySem.W.exm_one (M := model X.prog X.w) (J3.kIn) LT hb1
    have test : ∀ {Q : Value → Shared → Prop} {E : Value → Shared → Prop}, Q c { s' with heap := h3 } → wpAny (model X.prog X.w) (X.A.mark (some (.ref a))) (eval (.Name x np) X.env) Q E { s' with heap := h3 } := fun {Q E} q => by
      obtain ⟨hg, hdbg, hm | ⟨hm, hv, hnn⟩⟩ := hc
      · exact ld_glob (X := X.suite a ((a, oe3) :: (X.pn ++ pins))) S3 hg hm q hdbg
      · exact ld_blt (X := X.suite a ((a, oe3) :: (X.pn ++ pins))) S3 hg hm hv q hnn hdbg
    refine test (LM.here ?_)
    refine codeAny_handlers_suite_as ?_
    refine HandSPX.lands_againZ fl3 fun h4 fl4 up4 => ?_
    have J4 : Inv X pins σ' H' { s' with heap := h4 } := J.landed nb fl4.1 ((up.trans up3).trans up4) os ag
    obtain ⟨oe4, vs4, he4, hz4, hd4⟩ := fl4.there
    have T4 : Inv X pins σ' (upd H' a (ExT cls a)) { s' with heap := h4 } := inv_track J4 n0 na nL he4 hd4 np' (exT_ok he4 hz4 hd4)
    have S4 : Inv (X.suite a (X.pn ++ pins)) [] σ' (upd H' a (ExT cls a)) { s' with heap := h4 } :=
      ⟨T4.ok.suite _ _, T4.os, T4.bare, T4.base, T4.loc, T4.cell, T4.free, T4.freeC, fun p hp => T4.pin p (by rw [List.append_nil] at hp; exact hp), T4.hok, T4.len⟩
    have back : ∀ {σ6 : L2.St} {H6 : Hp} {s6 : Shared}, Inv (X.suite a (X.pn ++ pins)) [] σ6 H6 s6 → Inv X pins σ6 H6 s6 := fun {σ6 H6 s6} S =>
      ⟨ok, S.os, S.bare, S.base, S.loc, S.cell, S.free, S.freeC, fun p hp => S.pin p (List.mem_append_left _ hp), S.hok, S.len⟩
    refine store_ok (X := X.suite a (X.pn ++ pins)) (v := .ref a) S4 hN hi hloc rfl (fun s5 S5 => ?_) (.inr hln)
    refine wpAny_mono ((hsu a (X.pn ++ pins)).run [] s5 _ _ _ S5 (hyes a na)) (fun f s6 hsp => ?_) (fun _ _ z => False.elim z)
    have end_ : ∀ {σ6 : L2.St} {H6 : Hp} {Q : Shared → Prop}, Inv (X.suite a (X.pn ++ pins)) [] σ6 H6 s6 → (∀ s7, Inv X pins (σ6.set i none) H6 s7 → Q s7) →
        wpAny (model X.prog X.w) X.A (do bindName X.env n .none; unbindBehindTheSuite X.env n pos') (fun _ s7 => Q s7) X.xe s6 := fun {σ6 H6 Q} S6 hq => gone_ok (back S6) hN hi hln hq
    cases f with
    | next =>
      obtain ⟨σ6, H6, S6, q6⟩ := hsp
      exact end_ S6 fun s7 J7 => ⟨_, _, J7, q6⟩
    | brk =>
      obtain ⟨σ6, H6, S6, q6⟩ := hsp
      exact end_ S6 fun s7 J7 => ⟨_, _, J7, q6⟩
    | cont =>
      obtain ⟨σ6, H6, S6, q6⟩ := hsp
      exact end_ S6 fun s7 J7 => ⟨_, _, J7, q6⟩
    | ret u =>
      obtain ⟨v6, σ6, H6, S6, r6, q6⟩ := hsp
      exact end_ S6 fun s7 J7 => ⟨_, _, _, J7, r6, q6⟩
  · cases f with
    | next =>
      obtain ⟨σ', H', J', q⟩ := hsp
      exact wpAny_execs_nil ⟨σ', H', J'.ofTry ok, q⟩
    | brk =>
      obtain ⟨σ', H', J', q⟩ := hsp
      exact ⟨σ', H', J'.ofTry ok, q⟩
    | cont =>
      obtain ⟨σ', H', J', q⟩ := hsp
      exact ⟨σ', H', J'.ofTry ok, q⟩
    | ret u =>
      obtain ⟨v, σ', H', J', r, q⟩ := hsp
      exact ⟨v, σ', H', J'.ofTry ok, r, q⟩
end
end EB
namespace EB
open PySem L2
variable {B : Bd} {G G' G1 G2 G3 H H' H1 H2 H3 : Hp} {A A1 A2 A3 F : List Addr}
/-! ### a try's body: what is raised leaves the names as they were -/
def PostX (B : Bd) (W : WX) (C : Ctl) (Ga : List Sh) (sg : St) (E : Ends) (G H : Hp) (A : List Addr) : R Fl → Prop
  | .error (.exc c) => ∀ Cl G1 H1 A1, B.mg c = some (.ref Cl) → Step G H A G1 H1 A1 → Ex G1 H1 → W (.ref Cl) none sg H1
  | r => PostS B W C Ga sg E G H A r
def SemX (B : Bd) (W : WX) (C : Ctl) (ts : TS) (Ga Ga' : List Sh) (f : Fst) : Prop :=
  ∀ (G H : Hp) (fps : List (List Addr)) (sg : St) (rho : List D) (E : Ends), At B G H Ga fps sg rho → PostX B W C Ga' sg E G H fps.flatten (f rho) → ts E sg H
theorem PostX.later {W : WX} {C : Ctl} {Ga : List Sh} {sg : St} {E : Ends} {r : R Fl} (s : Step G H A G1 H1 A1) (h : PostX B W C Ga sg E G H A r) : PostX B W C Ga sg E G1 H1 A1 r := by
  unfold PostX at h ⊢
  split at h
  · exact fun Cl G2 H2 A2 m st ex => h Cl G2 H2 A2 m (s.trans st) ex
  · exact PostS.later s (Kp.refl _ _) h
theorem PostX.errE {W : WX} {C : Ctl} {Ga Ga' : List Sh} {sg : St} {sh : Sh} {E : Ends} {Q : VK} {e : Er} (h : PostX B W C Ga sg E G H A (.error e)) : Post B W Ga' sh sg G H A Q (.error e) := by
  cases e with
  | exc c => exact h
  | stuck => exact h
  | fuel => exact h
theorem PostX.errT {W : WX} {C : Ctl} {Ga Ga' : List Sh} {sg : St} {E : Ends} {Q : Bool → Hp → Prop} {e : Er} (h : PostX B W C Ga sg E G H A (.error e)) : PostT B W Ga' sg G H A Q (.error e) := by
  cases e with
  | exc c => exact fun Cl G1 H1 A1 m st ex => h Cl G1 H1 A1 m st ex
  | stuck => exact h
  | fuel => exact h
/-- the contexts of a try's body -/
abbrev Cf.trI {I : Type} (X : Cf I) (W : WX) : Type := { j : I × List (Addr × Obj) × (Value → Shared → Prop) // Takes ((X.at j.1).tr j.2.1 j.2.2) W ∧ PassesOwn (model X.prog X.w) X.A (X.env j.1) j.2.2 }
abbrev Cf.trf {I : Type} (X : Cf I) (W : WX) : Cf (X.trI W) where
  prog := X.prog
  w := X.w
  K := X.K
  mg := X.mg
  base := X.base
  A := X.A
  N := X.N
  calm := X.calm
  s_0 := fun j => X.s_0 j.1.1
  H_0 := fun j => X.H_0 j.1.1
  env := fun j => X.env j.1.1
  outer := fun j => X.outer j.1.1
  stack := fun j => X.stack j.1.1
  ex := fun j => X.ex j.1.1
  fn := fun j => X.fn j.1.1
  pn := fun j => j.1.2.1
  xe := fun j => j.1.2.2
theorem takesT {I : Type} {X : Cf I} {W : WX} : ∀ j : X.trI W, Takes ((X.trf W).at j) W := fun j => j.2.1
/-- the contexts of a suite -/
abbrev Cf.sut {I : Type} (X : Cf I) (a : Addr) : Cf (I × List (Addr × Obj)) where
  prog := X.prog
  w := X.w
  K := X.K
  mg := X.mg
  base := X.base
  A := X.A.mark (some (.ref a))
  N := X.N
  calm := false
  s_0 := fun j => X.s_0 j.1
  H_0 := fun j => X.H_0 j.1
  env := fun j => X.env j.1
  outer := fun j => X.outer j.1
  stack := fun j => X.stack j.1
  ex := fun j => X.ex j.1
  fn := fun j => X.fn j.1
  pn := fun j => j.2
  xe := fun _ _ _ => False
structure DX {I : Type} (X : Cf I) (C : Ctl) (tb : WX → TS) (Ga : List Sh) (st : Stmt) (Ga' : List Sh) (f : Fst) : Prop where
  pe : ∀ W, ∀ j : X.trI W, PS ((X.trf W).at j) st (tb W)
  sm : ∀ W, SemX (bd X) W C (tb W) Ga Ga' f
section
variable {I : Type} {X : Cf I} {C : Ctl} {Ga Ga1 Ga2 Ga3 : List Sh} {sa sb sh : Sh} {fa fb : Fx} {a b c e : Expr} {te : WX → TE} {tt : WX → TT} {cf : Fb} {pos p p2 p3 : Pos} {tb tu : WX → TS} {f g : Fst} {st st2 : Stmt}
theorem SemX.set {W : WX} {ta : TE} {i : Nat} (h : Sem B W ta Ga Ga1 sh fa) (hs : sh.val = true) (hi : i < Ga1.length) (hp : C.P.contains i = false) : SemX B W C (tAsg ta (gName i)) Ga (Ga1.set i sh) (sSet i fa) := fun G H fps sg rho E a p => by
  refine h G H fps sg rho _ a ?_
  unfold sSet at p
  cases e : fa rho with
  | ok z =>
    obtain ⟨d, rho1⟩ := z
    rw [e] at p
    intro G1 H1 fps1 fp v r
    obtain ⟨f2, s2, a2⟩ := r.into hs hi
    exact p G1 H1 f2 _ s2 a2 (kp_set hp)
  | error x =>
    rw [e] at p
    exact p.errE
theorem SemX.expr {W : WX} {ta : TE} (h : Sem B W ta Ga Ga1 sh fa) : SemX B W C (tDrop ta) Ga Ga1 (sExpr fa) := fun G H fps sg rho E a p => by
  refine h G H fps sg rho _ a ?_
  unfold sExpr at p
  cases e : fa rho with
  | ok z =>
    obtain ⟨d, rho1⟩ := z
    rw [e] at p
    exact fun G1 H1 fps1 fp v r => p G1 H1 fps1 sg (r.st.sub fun x hx => List.mem_append_left _ hx) r.av (Kp.refl _ _)
  | error x =>
    rw [e] at p
    exact p.errE
theorem SemX.ite {W : WX} {ttt : TT} {ts tv : TS} (h : SemT B W ttt Ga Ga1 cf) (h1 : SemX B W C ts Ga1 Ga2 f) (h2 : SemX B W C tv Ga1 Ga2 g) : SemX B W C (tIfS ttt ts tv) Ga Ga2 (sIf cf f g) := fun G H fps sg rho E av p =>
  h G H fps sg rho _ av (PostT.to (P := fun G H A r => PostX B W C Ga2 sg E G H A r) (g := fun b r => if b then f r else g r) (fun s h => h.later s) (fun h => h.errT) p fun G1 H1 fps1 b rho1 a1 p1 => by
    cases b with
    | true =>
      simp only [if_true] at p1 ⊢
      exact h1 G1 H1 fps1 sg rho1 E a1 p1
    | false =>
      simp only [Bool.false_eq_true, if_false] at p1 ⊢
      exact h2 G1 H1 fps1 sg rho1 E a1 p1)
theorem DX.set (i : Nat) {x : Str} (hN : X.N.Nodup) (h : ∀ W, DE (X.trf W) W (te W) Ga e Ga1 sh fa) (hv : sh.val = true := by rfl) (hi : (decide (i < Ga1.length)) = true := by rfl) (hp : C.P.contains i = false := by rfl) (hx : X.N[i]? = some x := by rfl)
    (hl : ∀ ii, Loc (X.env ii).scope x := by intro _; first | exact Or.inl rfl | exact Or.inr rfl) (hs : ∀ ii, swapsWith e (some (.Name x p)) pos.line (X.env ii) = pure false := by intro _; rfl) (hf : ∀ ii, X.fn ii x = true ∨ (X.env ii).scope.names.lookup x = some .local := by intro _; first | exact .inl rfl | exact .inr rfl) :
    DX X C (fun W => tAsg (te W) (gName i)) Ga (.Assign [.Name x p] e pos) (Ga1.set i sh) (sSet i fa) := ⟨fun W j => ps_set hN hx (hl j.1.1) ((h W).pe j) (hs j.1.1) (hf j.1.1), fun W => SemX.set (h W).sm hv (of_decide_eq_true hi) hp⟩
theorem DX.expr (h : ∀ W, DE (X.trf W) W (te W) Ga e Ga1 sh fa) (hs : ∀ ii, swapsWith e none pos.line (X.env ii) = pure false := by intro _; rfl) : DX X C (fun W => tDrop (te W)) Ga (.Expr e pos) Ga1 (sExpr fa) := ⟨fun W j => ps_expr ((h W).pe j) (hs j.1.1), fun W => SemX.expr (h W).sm⟩
theorem DX.ite (h : ∀ W, DT (X.trf W) W (tt W) Ga c Ga1 cf) (h1 : DX X C tb Ga1 st Ga2 f) (h2 : DX X C tu Ga1 st2 Ga2 g) : DX X C (fun W => tIfS (tt W) (tb W) (tu W)) Ga (.If c [st] [st2] pos) Ga2 (sIf cf f g) :=
  ⟨fun W j => ps_if ((h W).pe j) (pss_one (h1.pe W j)) (pss_one (h2.pe W j)), fun W => SemX.ite (h W).sm (h1.sm W) (h2.sm W)⟩
theorem DX.weak (fs is : List Nat) (h : DX X C tb Ga st Ga1 f) (hf : frzOk Ga1 fs = true := by rfl) (hg : drops (frzs Ga1 fs) is = Ga2 := by rfl) : DX X C tb Ga st Ga2 f := by
  subst hg
  refine ⟨h.pe, fun W G H fps sg rho E a p => h.sm W G H fps sg rho E a ?_⟩
  unfold PostX at p ⊢
  split at p
  · exact p
  · unfold PostS at p ⊢
    split at p
    · intro G1 H1 fps1 sg1 st1 a1 k1
      obtain ⟨G2, f2, s2, a2⟩ := a1.weak fs is hf
      exact p G2 H1 f2 sg1 (st1.trans s2) a2 k1
    · exact p
    · exact p
    · exact p
    · exact p
    · exact p
theorem DX.to (Gb : List Sh) (h : DX X C tb Ga st Ga1 f) (hG : Ga1 = Gb := by rfl) : DX X C tb Ga st Gb f := hG ▸ h
/-! ### what is known in a suite: what was shared -/
def dem : List Sh → List Sh
  | [] => []
  | .s :: r => .s :: dem r
  | _ :: r => .u :: dem r
theorem OwnL.dem (g : Ex G G1) : ∀ {Ga : List Sh} {fps : List (List Addr)} {sg : St} {rho : List D}, OwnL B G H Ga fps sg rho → OwnL B G1 H1 (EB.dem Ga) (Ga.map fun _ => []) sg rho
  | [], _, _, _, h => by
    simp only [OwnL] at h
    obtain ⟨rfl, rfl, rfl⟩ := h
    simp [OwnL, EB.dem]
  | e :: es, _, _, _, h => by
    simp only [OwnL] at h
    obtain ⟨f, fr, v, vr, d, dr, rfl, rfl, rfl, h1, h2⟩ := h
    have ih := OwnL.dem g h2
    cases e with
    | s =>
      simp only [EB.dem, List.map_cons, OwnL]
      simp only [Own] at h1
      obtain ⟨_, w, e, r⟩ := h1
      exact ⟨[], _, v, vr, d, dr, rfl, rfl, rfl, by simp only [Own]; exact ⟨trivial, w, e, r.mono g⟩, ih⟩
    | _ =>
      simp only [EB.dem, List.map_cons, OwnL]
      exact ⟨[], _, v, vr, d, dr, rfl, rfl, rfl, by simp [Own], ih⟩
theorem flat_nil {α : Type} (l : List α) : (l.map fun _ => ([] : List Addr)).flatten = [] := by
  induction l with
  | nil => rfl
  | cons a l ih => simp [ih]
theorem At.dem {fps : List (List Addr)} {sg : St} {rho : List D} (a : At B G H Ga fps sg rho) (g : Ex G G1) (x : Ex G1 H1) : At B G1 H1 (EB.dem Ga) (Ga.map fun _ => []) sg rho :=
  ⟨OwnL.dem g a.own, by rw [flat_nil]; exact List.nodup_nil, by rw [flat_nil]; simp, x⟩
theorem dem_len : ∀ Ga : List Sh, (dem Ga).length = Ga.length
  | [] => rfl
  | e :: es => by cases e <;> simp [dem, dem_len es]
def sTry (l : List Str) (i : Nat) (f g : Fst) : Fst := fun rho => match f rho with
  | .error (.exc c) => if l.contains c then (match g (rho.set i (.ins c exMark [])) with
    | .ok z => .ok z
    | .error _ => stuck) else stuck
  | r => r
theorem SemS.tryAs {W : WX} {Cv : Value} {i : Nat} {l : List Str} {ts : Addr → TS} (hi : i < Ga.length) (hiP : C.P.contains i = false) (hx : ∀ c ∈ l, ∀ Cl, B.mg c = some (.ref Cl) → PySem.W.exmOne B.K (.ref Cl) Cv = some true)
    (hb : ∀ W, SemX B W C (tb W) Ga Ga1 f) (hs : ∀ a, SemS B W0 C (ts a) ((dem Ga).set i .s) Ga1 g) (hbk : C.bk[i]? = none ∨ C.bk[i]? = some .u) (hct : C.ct[i]? = none ∨ C.ct[i]? = some .u) (h1 : Ga1[i]? = some .u) :
    SemS B W C (fun D σ H => tb (wAsT B.K Cv i ts D) D σ H) Ga Ga1 (sTry l i f g) := fun G H fps sg rho E av p => by
  refine hb _ G H fps sg rho E av ?_
  unfold sTry at p
  cases e : f rho with
  | ok z =>
    rw [e] at p
    cases z with
    | nx r => exact p
    | rt d r => exact p
    | bk r => exact p
    | ct r => exact p
  | error x =>
    rw [e] at p
    cases x with
    | stuck => exact p.elim
    | fuel => exact p.elim
    | exc c =>
      simp only at p
      split at p
      · rename_i hc
        have hcl := List.contains_iff_mem.mp hc
        intro Cl G1 H1 A1 mc st ex
        refine ⟨rfl, hx c hcl Cl mc, fun a na => ?_⟩
        have a0 := av.dem st.g ex
        have hG1 : G1 a = none := ex.free na
        have rp : Rep B (upd G1 a (ExT (.ref Cl) a)) (.ref a) (.ins c exMark []) := .exc mc upd_same
        have r0 := Res.new (o := ExT (.ref Cl) a) a0 na rp
        obtain ⟨f2, s2, a2⟩ := r0.into (i := i) rfl (by rw [dem_len]; exact hi)
        refine hs a _ _ f2 _ _ _ a2 ?_
        have stt : Step G H fps.flatten (upd G1 a (ExT (.ref Cl) a)) (upd H1 a (ExT (.ref Cl) a)) f2.flatten := by
          refine st.trans (Step.trans ?_ s2)
          exact (Step.refl G1 H1 A1).sub (by rw [flat_nil]; simp)
        have ks : Kp C.P sg (sg.set i (some (.ref a))) := kp_set hiP
        have p1 := p.later stt ks
        -- a slot without shape may hold anything
        have wi : ∀ {G5 H5 : Hp} {Gb : List Sh} {f5 : List (List Addr)} {sg5 : St} {r5 : List D}, Gb[i]? = none ∨ Gb[i]? = some .u → At B G5 H5 Gb f5 sg5 r5 → At B G5 H5 Gb f5 (sg5.set i none) r5 := fun {G5 H5 Gb f5 sg5 r5} hz a5 =>
          a5.slots (by simp) rfl (fun j hj => by
            by_cases q : j = i
            · subst q
              rcases hz with z | z
              · have : sg5[j]? = none := by
                  rw [List.getElem?_eq_none_iff] at z ⊢
                  rw [(OwnL.lens a5.own).2.1]
                  exact z
                rw [this, List.getElem?_eq_none_iff, List.length_set]
                rwa [List.getElem?_eq_none_iff] at this
              · exact absurd z hj
            · rw [List.getElem?_set_ne (fun z => q z.symm)]) (fun _ _ => rfl)
        have kpi : ∀ {s5 s6 : St}, Kp C.P s5 s6 → Kp C.P s5 (s6.set i none) := fun k => k.trans (kp_set hiP)
        cases eg : g (rho.set i (.ins c exMark [])) with
        | error x =>
          rw [eg] at p1
          exact p1.elim
        | ok z =>
          rw [eg] at p1
          cases z with
          | nx r => exact fun G5 H5 f5 sg5 s5 a5 k5 => p1 G5 H5 f5 _ s5 (wi (.inr h1) a5) (kpi k5)
          | bk r => exact fun G5 H5 f5 sg5 s5 a5 k5 => p1 G5 H5 f5 _ s5 (wi hbk a5) (kpi k5)
          | ct r => exact fun G5 H5 f5 sg5 s5 a5 k5 => p1 G5 H5 f5 _ s5 (wi hct a5) (kpi k5)
          | rt d r => exact p1
      · exact p.elim
theorem DS.tryAs {W : WX} {x n : Str} {Cv : Value} {i : Nat} {l : List Str} {ts : Addr → TS} {b₀ : Stmt} {suite : List Stmt} {np pos' : Pos} (hst : ∀ ii, X.stack ii = X.env ii :: X.outer ii) (hfr : ∀ ii, (X.env ii).frame = some (X.env ii).locals) (hex : ∀ ii, X.ex ii = []) (hN : X.N.Nodup)
    (hc : ∀ ii, Names (X.at ii) x Cv) (hx : ∀ c ∈ l, ∀ Cl, X.mg c = some (.ref Cl) → PySem.W.exmOne X.K (.ref Cl) Cv = some true)
    (hb : DX X C tb Ga st Ga1 f) (hsu : ∀ a, DB (X.sut a) W0 C (ts a) ((dem Ga).set i .s) (b₀ :: suite) Ga1 g)
    (hn : X.N[i]? = some n := by rfl) (hln : ∀ ii, (X.env ii).kindOf n = some .local := by intro _; rfl) (hi : decide (i < Ga.length) = true := by rfl) (hiP : C.P.contains i = false := by rfl)
    (hbk : (match C.bk[i]? with | none => true | some .u => true | _ => false) = true := by rfl) (hct : (match C.ct[i]? with | none => true | some .u => true | _ => false) = true := by rfl) (h1 : Ga1[i]? = some .u := by rfl) :
    DS X W C (fun D σ H => tb (wAsT X.K Cv i ts D) D σ H) Ga (.Try [st] [.ExceptHandler (some (.Name x np)) (some n) (b₀ :: suite) pos'] [] [] pos) Ga1 (sTry l i f g) := by
  have z : ∀ {o : Option Sh}, (match o with | none => true | some .u => true | _ => false) = true → o = none ∨ o = some .u := fun {o} h => by
    split at h
    · exact .inl rfl
    · exact .inr rfl
    · cases h
  exact ⟨fun ii => ps_try_asT (X := X.at ii) (hst ii) (hfr ii) (hex ii) hN hn (hln ii) (hc ii) (fun W pn xe tk po => pss_one (hb.pe W ⟨(ii, pn, xe), tk, po⟩)) (fun a pn => (hsu a).pe (ii, pn)),
    SemS.tryAs (of_decide_eq_true hi) hiP hx hb.sm (fun a => (hsu a).sm) (z hbk) (z hct) h1⟩
end
end EB
namespace EB
open PySem L2
variable {B : Bd} {G G' G1 G2 G3 H H' H1 H2 H3 : Hp} {A A1 A2 A3 F : List Addr}
/-! ### isinstance of exceptions, except's classes -/
/-- a class by its name -/
def Kl (mg : Str → Option Value) (y : Str) (v : V) (u : Value) : Prop := ClsV v u ∧ RelV v u ∧ (y == ("__debug__" : Str)) = false ∧ (mg y = some u ∨ (mg y = none ∧ bootBuiltins y = some u ∧ y ≠ "__name__"))
theorem kl_own {mg : Str → Option Value} {y : Str} {C : Addr} (h : mg y = some (.ref C)) (hd : (y == ("__debug__" : Str)) = false := by decide) : Kl mg y (.ref C) (.ref C) := ⟨.own C, rfl, hd, .inl h⟩
theorem kl_ve {mg : Str → Option Value} (h : mg "ValueError" = none) : Kl mg "ValueError" (.ty "ValueError") (.type "ValueError") := ⟨.ty _, rfl, by decide, .inr ⟨h, by decide +kernel, by decide⟩⟩
theorem kl_pe {X : Cx} {y : Str} {v : V} {u : Value} {p : Pos} (k : Kl X.mg y v u) (hg : Gl X y) : PE X (.Name y p) (tC v) := by
  obtain ⟨_, r, hd, h | ⟨h, hb, hn⟩⟩ := k
  · exact pe_glob hg h r hd
  · exact pe_bltn hg h hb r hn hd
theorem kit_ref {K : PySem.W.Frag} {C D : Addr} {b : Bool} (hd : PySem.W.hasDictIn K D = true) (ht : PySem.W.typeIn K (.ref D) = some (.type "type")) (s : PySem.W.subIn K (.ref C) (.ref D) = some b) (self : PySem.W.subIn K (.ref C) (.ref C) = some true) : PySem.W.kitOne K (.ref C) (.ref D) = some b := by
  by_cases e : C = D
  · subst e
    rw [self] at s
    cases s
    unfold PySem.W.kitOne
    rw [if_pos (beq_self_eq_true _)]
  · unfold PySem.W.kitOne
    rw [if_neg (by
      intro z
      exact e (Value.ref.inj (beq_iff_eq.mp z)))]
    obtain ⟨cd, hc, _⟩ := PySem.W.any_some hd
    show (if ((PySem.W.clsIn K D).isSome && PySem.W.typeIn K (.ref D) == some (.type "type")) = true then PySem.W.subIn K (.ref C) (.ref D) else none) = some b
    rw [if_pos (by rw [hc, ht]; rfl)]
    exact s
theorem kit_ve {K : PySem.W.Frag} {C : Addr} (s : PySem.W.subIn K (.ref C) (.type "ValueError") = some true) : PySem.W.kitOne K (.ref C) (.type "ValueError") = some true := by
  unfold PySem.W.kitOne
  rw [if_neg (by
    intro z
    cases (beq_iff_eq.mp z))]
  show (if PySem.W.kitMeta "ValueError" = true then PySem.W.subIn K (.ref C) (.type "ValueError") else none) = some true
  rw [if_pos (by decide +kernel)]
  exact s
def TbOk (K : PySem.W.Frag) (mg : Str → Option Value) (tbl : List (Str × Bool)) (u : Value) : Prop := ∀ p ∈ tbl, ∀ C, mg p.1 = some (.ref C) → ExcC K C ∧ PySem.W.kitOne K (.ref C) u = some p.2
theorem TbOk.nil {K : PySem.W.Frag} {mg : Str → Option Value} {u : Value} : TbOk K mg [] u := fun _ h => nomatch h
theorem TbOk.cons {K : PySem.W.Frag} {mg : Str → Option Value} {tbl : List (Str × Bool)} {u : Value} {c : Str} {b : Bool} (h : ∀ C, mg c = some (.ref C) → ExcC K C ∧ PySem.W.kitOne K (.ref C) u = some b) (r : TbOk K mg tbl u) : TbOk K mg ((c, b) :: tbl) u := fun p hp => by
  rcases List.mem_cons.mp hp with e | e
  · subst e
    exact h
  · exact r p e
def TbAny (K : PySem.W.Frag) (mg : Str → Option Value) (tbl : List (Str × Bool)) (us : List Value) : Prop := ∀ p ∈ tbl, ∀ C, mg p.1 = some (.ref C) → ExcC K C ∧ PySem.W.kitAny K (.ref C) us = some p.2
theorem TbAny.nil {K : PySem.W.Frag} {mg : Str → Option Value} {us : List Value} : TbAny K mg [] us := fun _ h => nomatch h
theorem TbAny.cons {K : PySem.W.Frag} {mg : Str → Option Value} {tbl : List (Str × Bool)} {us : List Value} {c : Str} {b : Bool} (h : ∀ C, mg c = some (.ref C) → ExcC K C ∧ PySem.W.kitAny K (.ref C) us = some b) (r : TbAny K mg tbl us) : TbAny K mg ((c, b) :: tbl) us := fun p hp => by
  rcases List.mem_cons.mp hp with e | e
  · subst e
    exact h
  · exact r p e
def ExOk (K : PySem.W.Frag) (mg : Str → Option Value) (l : List Str) (Cv : Value) : Prop := ∀ c ∈ l, ∀ Cl, mg c = some (.ref Cl) → PySem.W.exmOne K (.ref Cl) Cv = some true
theorem ExOk.nil {K : PySem.W.Frag} {mg : Str → Option Value} {Cv : Value} : ExOk K mg [] Cv := fun _ h => nomatch h
theorem ExOk.cons {K : PySem.W.Frag} {mg : Str → Option Value} {l : List Str} {Cv : Value} {c : Str} (h : ∀ Cl, mg c = some (.ref Cl) → PySem.W.exmOne K (.ref Cl) Cv = some true) (r : ExOk K mg l Cv) : ExOk K mg (c :: l) Cv := fun p hp => by
  rcases List.mem_cons.mp hp with e | e
  · subst e
    exact h
  · exact r p e
def lookB (tbl : List (Str × Bool)) (c : Str) : Option Bool := match tbl with
  | [] => none
  | (x, b) :: r => if x = c then some b else lookB r c
theorem lookB_mem : ∀ {tbl : List (Str × Bool)} {c : Str} {b : Bool}, lookB tbl c = some b → (c, b) ∈ tbl
  | [], _, _, h => by cases h
  | (x, d) :: r, c, b, h => by
    unfold lookB at h
    split at h
    · rename_i e
      subst e
      cases h
      exact List.mem_cons_self
    · exact List.mem_cons_of_mem _ (lookB_mem h)
def dIsX (tbl : List (Str × Bool)) : D → R D
  | .ins c fs ds => if fs = exMark ∧ ds.isEmpty = true then (match lookB tbl c with
    | some b => .ok (.bl b)
    | none => stuck) else stuck
  | _ => stuck
theorem Rep.exIs (x : Ex G H) {v : V} {c : Str} {ds : List D} (r : Rep B G v (.ins c exMark ds)) (hd : ds.isEmpty = true) : ∃ a C, v = .ref a ∧ B.mg c = some (.ref C) ∧ H a = some (ExT (.ref C) a) := by
  rw [List.isEmpty_iff] at hd
  subst hd
  generalize hfs : exMark = fs at r
  cases r with
  | exc m h => exact ⟨_, _, rfl, m, x _ _ h⟩
  | ins m h k rs =>
    rename_i kvs
    exfalso
    have : kvs = [] := by
      cases kvs with
      | nil => rfl
      | cons a l => cases rs
    subst this
    rw [← hfs] at k
    simp [exMark] at k
def rIsX (K : PySem.W.Frag) : List V → Hp → VK → Prop := fun xs H Q => ∃ (a C : Addr) (c : V) (u : Value) (b : Bool), xs = [.ref a, c] ∧ H a = some (ExT (.ref C) a) ∧ ExcC K C ∧ ClsV c u ∧ PySem.W.kitOne K (.ref C) u = some b ∧ Q (.bl b) H
def rIsXT (K : PySem.W.Frag) : List V → Hp → VK → Prop := fun xs H Q => ∃ (a C tp : Addr) (cs : List V) (us : List Value) (b : Bool), xs = [.ref a, .ref tp] ∧ H a = some (ExT (.ref C) a) ∧ ExcC K C ∧ H tp = some (.tup cs) ∧ Paired ClsV cs us ∧ PySem.W.kitAny K (.ref C) us = some b ∧ Q (.bl b) H
theorem inst_of {X : Cx} {pins : List (Addr × Obj)} {σ : St} {s : Shared} {a C : Addr} (I : Inv X pins σ H s) (h : H a = some (ExT (.ref C) a)) : ∃ oe, PySem.W.InstAt s.heap a oe C none := by
  obtain ⟨⟨oe, vs, e, hz, hv⟩, _, _⟩ := I.hok a _ h
  refine ⟨oe, ?_⟩
  obtain ⟨oc, od, oda, osl⟩ := oe
  obtain ⟨h1, h2⟩ := hz
  dsimp only at h1 h2 hv
  subst h1 h2 hv
  exact ⟨e, rfl, rfl, trivial⟩
theorem call_isX {X : Cx} : CallR X (.builtin "isinstance") (rIsX X.K) := by
  intro pins s σ H xs us Q I r h
  obtain ⟨a, C, c, u, b, rfl, ha, ec, k, e, q⟩ := h
  obtain ⟨u1, u2, rfl, r1, r2⟩ := vals2 r
  cases r1
  have e2 := k.eq r2
  subst e2
  obtain ⟨oe, J⟩ := inst_of I ha
  exact PySem.W.kia_one (PySem.W.handS_kitx_exc ec.hg ec.hk ec.hs ec.hd ec.ha ec.hn ec.ht ec.hm) I.kIn J e (fun z => nomatch z) fun tk => ⟨.bl b, H, I.tok tk, rfl, q⟩
theorem call_isXT {X : Cx} : CallR X (.builtin "isinstance") (rIsXT X.K) := by
  intro pins s σ H xs us Q I r h
  obtain ⟨a, C, tp, cs, ws, b, rfl, ha, ec, hT, k, e, q⟩ := h
  obtain ⟨u1, u2, rfl, r1, r2⟩ := vals2 r
  cases r1
  cases (show u2 = Value.ref tp from r2)
  obtain ⟨oe, J⟩ := inst_of I ha
  obtain ⟨_, its, rv, o, h1, h2, n, h3⟩ := (show ObjOk X.prog X.w H s.heap tp (.tup cs) from I.hok tp _ hT)
  have e3 := ClsV.all k rv
  subst e3
  obtain ⟨oc, od, dt, sl⟩ := o
  simp only at h2 h3
  subst h2 h3
  exact PySem.W.kia_tup (PySem.W.handS_kitx_exc ec.hg ec.hk ec.hs ec.hd ec.ha ec.hn ec.ht ec.hm) I.kIn J h1 e (fun z => nomatch z) fun tk => ⟨.bl b, H, I.tok tk, rfl, q⟩
/-- the classes of a written tuple -/
inductive Kls (mg : Str → Option Value) : List Str → List V → List Value → Prop where
  | nil : Kls mg [] [] []
  | cons {y : Str} {v : V} {u : Value} {ys : List Str} {vs : List V} {us : List Value} : Kl mg y v u → Kls mg ys vs us → Kls mg (y :: ys) (v :: vs) (u :: us)
theorem Kls.cls {mg : Str → Option Value} : ∀ {ys : List Str} {vs : List V} {us : List Value}, Kls mg ys vs us → Paired ClsV vs us
  | _, _, _, .nil => .nil
  | _, _, _, .cons h r => .cons h.1 (Kls.cls r)
def tCs : List V → TA
  | [] => tNil
  | v :: r => tCons (tC v) (tCs r)
theorem tCs_run : ∀ {vs : List V} {sg : St} {H : Hp} {Q : List V → Hp → Prop}, Q vs H → tCs vs sg H Q
  | [], _, _, _, h => h
  | v :: r, _, _, _, h => tCs_run (vs := r) h
section
variable {I : Type} {X : Cf I} {W : WX} {Ga Ga1 : List Sh} {sa : Sh} {fa : Fx} {a : Expr} {ta : TE} {pos p p2 p3 : Pos}
theorem Sem.isx {tbl : List (Str × Bool)} {v : V} {u : Value} (hk : ClsV v u) (ht : TbOk B.K B.mg tbl u) (ha : Sem B W ta Ga Ga1 sa fa) (fl : sa.flat = true) (s1 : seen Ga1 sa = true) : Sem B W (tCB (rIsX B.K) (tCons ta (tCons (tC v) tNil))) Ga Ga1 .s (fOp1 (dIsX tbl) sa fa) :=
  Sem.un (r := fun x H Q => rIsX B.K [x, v] H Q) ha fl fun G H fps sg rho d w Q a v1 p => by
    obtain ⟨G1, _, x1, r⟩ := a.view v1 s1
    generalize res sa d rho = z at p r
    unfold dIsX at p
    split at p
    · rename_i c fs ds
      split at p
      · rename_i hf
        split at p
        · rename_i b hb
          obtain ⟨rfl, hd⟩ := hf
          obtain ⟨a', C, rfl, m, h⟩ := r.exIs x1 hd
          obtain ⟨ec, k1⟩ := ht _ (lookB_mem hb) C m
          exact ⟨a', C, v, u, b, rfl, h, ec, hk, k1, Post.flat a p (.bl _)⟩
        · exact p.elim
      · exact p.elim
    · exact p.elim
theorem DE.isx {y : Str} {v : V} {u : Value} {tbl : List (Str × Bool)} (hm : X.mg "isinstance" = none) (kl : Kl X.mg y v u) (ht : TbOk X.K X.mg tbl u) (ha : DE X W ta Ga a Ga1 sa fa) (fl : sa.flat = true := by rfl) (s1 : seen Ga1 sa = true := by rfl)
    (hg : ∀ ii, Gl (X.at ii) "isinstance" := by intro _; rfl) (hgT : ∀ ii, Gl (X.at ii) y := by intro _; rfl)
    (he : ∀ ii, starEach (a :: [.Name y p2]) (X.env ii) = (false, eval a (X.env ii)) :: starEach [.Name y p2] (X.env ii) := by intro _; rfl) (hpl : ∀ ii, (backTo pos (starEach [.Name y p2] (X.env ii))).any (·.1) = false := by intro _; rfl) :
    DE X W (tCB (rIsX X.K) (tCons ta (tCons (tC v) tNil))) Ga (.Call (.Name "isinstance" p) [a, .Name y p2] [] pos) Ga1 .s (fOp1 (dIsX tbl) sa fa) :=
  ⟨fun ii => pe_callB call_isX (hg ii) hm PyProof.Rows.boot_isinstance (pa_cons (ha.pe ii) (pa_cons (kl_pe kl (hgT ii)) pa_nil) (he ii)) (by decide) (by decide) (he ii) (hpl ii), Sem.isx kl.1 ht ha.sm fl s1⟩
theorem Sem.isxT {tbl : List (Str × Bool)} {vs : List V} {us : List Value} (hk : Paired ClsV vs us) (hl : vs.length ≤ 1000) (ht : TbAny B.K B.mg tbl us) (ha : Sem B W ta Ga Ga1 sa fa) (fl : sa.flat = true) (s1 : seen Ga1 sa = true) :
    Sem B W (tCB (rIsXT B.K) (tCons ta (tCons (tTup (tCs vs)) tNil))) Ga Ga1 .s (fOp1 (dIsX tbl) sa fa) :=
  Sem.un' (r := fun sg x H Q => tTup (tCs vs) sg H fun t H2 => rIsXT B.K [x, t] H2 Q) ha fl fun G H fps sg rho d w Q a v1 p => by
    refine tCs_run ⟨small_line (by omega), fun q hq => ?_⟩
    obtain ⟨G1, g1, x1, r⟩ := a.view v1 s1
    generalize res sa d rho = z at p r
    unfold dIsX at p
    split at p
    · rename_i c fs ds
      split at p
      · rename_i hf
        split at p
        · rename_i b hb
          obtain ⟨rfl, hd⟩ := hf
          obtain ⟨a', C, rfl, m, h⟩ := r.exIs x1 hd
          obtain ⟨ec, k1⟩ := ht _ (lookB_mem hb) C m
          have st : Step G H fps.flatten G (upd H q (.tup vs)) fps.flatten := (Step.newOwn hq).sub fun x hx => List.mem_append_left _ hx
          have av : At B G (upd H q (.tup vs)) Ga1 fps sg rho := a.same (Step.newOwn (A := []) hq) (by simp) (a.ex.upd_r (a.ex.free hq))
          exact ⟨a', C, q, vs, us, b, rfl, by rw [upd_ne (ne_of_none h hq)]; exact h, ec, upd_same, hk, k1, p _ _ _ _ _ ⟨st.sub (by simp), av, .s (.bl _), by simpa using av.nd, by simp⟩⟩
        · exact p.elim
      · exact p.elim
    · exact p.elim
theorem DE.isxT {es : List Expr} {vs : List V} {us : List Value} {tbl : List (Str × Bool)} {x1} (hm : X.mg "isinstance" = none) (hk : Paired ClsV vs us) (hp : ∀ ii, PA (X.at ii) es (tCs vs)) (ht : TbAny X.K X.mg tbl us) (ha : DE X W ta Ga a Ga1 sa fa) (hl : decide (vs.length ≤ 1000) = true := by rfl) (fl : sa.flat = true := by rfl) (s1 : seen Ga1 sa = true := by rfl)
    (hg : ∀ ii, Gl (X.at ii) "isinstance" := by intro _; rfl)
    (he : ∀ ii, starEach (a :: [.Tuple es x1 p2]) (X.env ii) = (false, eval a (X.env ii)) :: starEach [.Tuple es x1 p2] (X.env ii) := by intro _; rfl) (hpl : ∀ ii, (backTo pos (starEach [.Tuple es x1 p2] (X.env ii))).any (·.1) = false := by intro _; rfl) :
    DE X W (tCB (rIsXT X.K) (tCons ta (tCons (tTup (tCs vs)) tNil))) Ga (.Call (.Name "isinstance" p) [a, .Tuple es x1 p2] [] pos) Ga1 .s (fOp1 (dIsX tbl) sa fa) :=
  ⟨fun ii => pe_callB call_isXT (hg ii) hm PyProof.Rows.boot_isinstance (pa_cons (ha.pe ii) (pa_cons (pe_tup (hp ii)) pa_nil) (he ii)) (by decide) (by decide) (he ii) (hpl ii), Sem.isxT hk (of_decide_eq_true hl) ht ha.sm fl s1⟩
end
/-! ### wp rules -/
section
variable {f g : Fst} {rho : List D} {N : List D → Prop} {Q : D → List D → Prop} {Bk Ct : List D → Prop} {fa : Fx} {i : Nat} {l : List Str}
/-- a run that may raise: what is wanted of each way -/
def wX (r : R Fl) (N : List D → Prop) (Q : D → List D → Prop) (Bk Ct : List D → Prop) (X : Str → Prop) : Prop := match r with
  | .ok (.nx r) => N r
  | .ok (.rt d r) => Q d r
  | .ok (.bk r) => Bk r
  | .ok (.ct r) => Ct r
  | .error (.exc c) => X c
  | .error _ => False
theorem wS_try : wS (sTry l i f g rho) N Q Bk Ct = wX (f rho) N Q Bk Ct fun c => l.contains c = true ∧ wS (g (rho.set i (.ins c exMark []))) N Q Bk Ct := by
  unfold sTry wX
  cases f rho with
  | ok z => cases z <;> rfl
  | error x =>
    cases x with
    | exc c =>
      simp only
      cases h : l.contains c with
      | true =>
        simp only [if_true, true_and]
        unfold wS
        cases g (rho.set i (.ins c exMark [])) with
        | ok z => cases z <;> rfl
        | error _ => rfl
      | false => simp [wS, stuck]
    | stuck => rfl
    | fuel => rfl
/-- an expression that may raise -/
def wXE {α : Type} (r : R (α × List D)) (P : α → List D → Prop) (X : Str → Prop) : Prop := match r with
  | .ok (d, rho) => P d rho
  | .error (.exc c) => X c
  | .error _ => False
theorem wXE.of {α : Type} {r : R (α × List D)} {P : α → List D → Prop} {X : Str → Prop} (h : wE r P) : wXE r P X := by
  unfold wE at h
  unfold wXE
  split at h
  · exact h
  · exact h.elim
theorem wXE.mono {α : Type} {r : R (α × List D)} {P P' : α → List D → Prop} {X X' : Str → Prop} (h : wXE r P X) (k : ∀ d rho, P d rho → P' d rho) (k2 : ∀ c, X c → X' c) : wXE r P' X' := by
  unfold wXE at h ⊢
  split at h
  · exact k _ _ h
  · exact k2 _ h
  · exact h.elim
theorem wX_set {X : Str → Prop} : wX (sSet i fa rho) N Q Bk Ct X = wXE (fa rho) (fun d r => N (r.set i d)) X := by
  unfold sSet wX wXE
  cases fa rho with
  | ok z => rfl
  | error x => cases x <;> rfl
theorem wX_expr {X : Str → Prop} : wX (sExpr fa rho) N Q Bk Ct X = wXE (fa rho) (fun d r => N r) X := by
  unfold sExpr wX wXE
  cases fa rho with
  | ok z => rfl
  | error x => cases x <;> rfl
theorem wX_if {X : Str → Prop} {cf : Fb} : wX (sIf cf f g rho) N Q Bk Ct X = wXE (cf rho) (fun b r => (b = true → wX (f r) N Q Bk Ct X) ∧ (b = false → wX (g r) N Q Bk Ct X)) X := by
  unfold sIf wX wXE
  cases cf rho with
  | ok z =>
    obtain ⟨b, r⟩ := z
    cases b <;> simp
  | error x => cases x <;> rfl
/-- a call with arguments that don't raise -/
theorem wXE_own {P : D → List D → Prop} {X : Str → Prop} {m : Fn} {shs : List Sh} {ow : List (Nat × Nat)} {fs : Fs} (h : wE (fs rho) fun ds r => wXE (m (List.zipWith (fun sh d => res sh d r) shs ds)) (fun d out => P d (backD out r ow)) X) : wXE (fOwn m shs ow fs rho) P X := by
  unfold fOwn fArgs
  unfold wE at h
  cases e : fs rho with
  | error x => rw [e] at h; exact h.elim
  | ok z =>
    obtain ⟨ds, r⟩ := z
    rw [e] at h
    simp only at h ⊢
    unfold wXE at h ⊢
    cases e2 : m (List.zipWith (fun sh d => res sh d r) shs ds) with
    | ok z =>
      rw [e2] at h
      exact h
    | error x =>
      rw [e2] at h
      cases x <;> exact h
/-- .. in terms of the def's own run -/
theorem wXE_run {P : D → List D → Prop} {X : Str → Prop} {k : Nat} {ds : List D} {rs : Sh} (h : wX (f (ds ++ List.replicate k .non)) (fun r => rs = .s ∧ P .non r) P (fun _ => False) (fun _ => False) X) : wXE (runB rs f k ds) P X := by
  unfold runB
  unfold wX at h
  unfold wXE
  split at h
  · rename_i e
    rw [e]
    obtain ⟨rfl, h⟩ := h
    exact h
  · rename_i e
    rw [e]
    exact h
  · exact h.elim
  · exact h.elim
  · rename_i e
    rw [e]
    exact h
  · exact h.elim
/-- a block: first a statement, then the rest -/
theorem wX_seq {X : Str → Prop} : wX (sSeq f g rho) N Q Bk Ct X = wX (f rho) (fun r => wX (g r) N Q Bk Ct X) Q Bk Ct X := by
  unfold sSeq wX
  cases f rho with
  | ok z => cases z <;> rfl
  | error x => cases x <;> rfl
theorem wX_of {r : R Fl} {X : Str → Prop} (h : wS r N Q Bk Ct) : wX r N Q Bk Ct X := by
  unfold wS at h
  unfold wX
  split at h <;> first | exact h | exact h.elim
@[simp] theorem wX_nil {X : Str → Prop} : wX (sNil rho) N Q Bk Ct X = N rho := rfl
@[simp] theorem wX_raise {X : Str → Prop} {c : Str} : wX (sRaise c rho) N Q Bk Ct X = X c := rfl
theorem wX_ret {X : Str → Prop} : wX (sRet fa rho) N Q Bk Ct X = wXE (fa rho) Q X := by
  unfold sRet wX wXE
  cases fa rho with
  | ok z => rfl
  | error x => cases x <;> rfl
end
end EB
namespace EB
open PySem L2
variable {B : Bd} {G G' G1 G2 G3 H H' H1 H2 H3 : Hp} {A A1 A2 A3 F : List Addr}
section
variable {I : Type} {X : Cf I} {W : WX} {C : Ctl} {Ga Ga1 Ga2 Ga3 : List Sh} {sa sb sc sh : Sh} {fa fb fc : Fx} {fs : Fs} {a b c e : Expr} {ta tb tc te : TE} {tt : TT} {cf : Fb} {pos p p2 p3 : Pos} {ts tu : TS} {f g : Fst} {st : Stmt} {rest sts sts2 : List Stmt}
/-! ### divmod -/
def dDivmod : List D → R D
  | [.int i, .int j] => if 0 < j ∧ j.natAbs.log2 < 9000 then .ok (.tup [.int (i / j), .int (i % j)]) else stuck
  | _ => stuck
def rDivmod : List V → Hp → VK → Prop := fun xs H Q => ∃ i j, xs = [.int i, .int j] ∧ (0 < j ∧ j.natAbs.log2 < 9000) ∧ ∀ l o, H l = none → o.cls = .type "tuple" → o.dict = none → Q (.ref l) (upd H l (.frz o (.tup [.int (i / j), .int (i % j)])))
theorem call_divmodQ {X : Cx} : CallR X (.builtin "divmod") rDivmod := by
  intro pins s sg H xs us Q I r h
  obtain ⟨i, j, rfl, ⟨h1, h2⟩, q⟩ := h
  obtain ⟨u, w', rfl, ⟨t, rfl⟩, ⟨t', rfl⟩⟩ := vals2 r
  refine PyProof.Rows.divmod_int (by omega) ?_ (.inl (PyProof.noPylong_of_log2 h2))
  rw [Int.fdiv_eq_ediv_of_nonneg i (by omega), Int.fmod_eq_emod_of_nonneg i (by omega)]
  have hn : H s.heap.objs.size = none := I.hok.fresh (Nat.le_refl _)
  refine ⟨.ref s.heap.objs.size, _, ?_, rfl, q _ { cls := .type "tuple", data := .seq #[.int (i / j) s.toks, .int (i % j) (s.toks + 1)] } hn rfl rfl⟩
  refine I.laid (fun b o e => Heap.get?_push_of_some _ e) (Nat.le_refl _) (show ObjOk X.prog X.w _ _ _ (.frz _ (.tup _)) from ⟨Heap.get?_push_size _ rfl, ?_, [.int (i / j) s.toks, .int (i % j) (s.toks + 1)], .cons ⟨_, rfl⟩ (.cons ⟨_, rfl⟩ .nil), PyProof.Rows.IsTup.new _ _⟩)
  simp only [List.length_cons, List.length_nil]
  decide
theorem cd_divmod : CallD B rDivmod dDivmod := fun G H W Ga fps sg rho shs ds vs Q a vl f p => by
  unfold dDivmod at p
  split at p
  · rename_i i j e
    split at p
    · rename_i hc
      obtain ⟨sh, v, d, sh2, v2, d2, rfl, rfl, rfl, e1, e2, w1, w2⟩ := vl.two e
      simp only [List.all_cons, List.all_nil, Bool.and_true, Bool.and_eq_true] at f
      have h1 := a.int w1 (seen_of f.1) e1
      have h2 := a.int w2 (seen_of f.2) e2
      subst h1 h2
      exact ⟨i, j, rfl, hc, fun q o hq o1 o2 => p _ _ _ _ _ (Res.new a hq (.tup (TQ.of upd_same o1 o2) (.cons (.int _) (.cons (.int _) .nil))))⟩
    · exact p.elim
  · exact p.elim
/-! ### targets in targets -/
inductive Pt where
  | n (i : Nat)
  | t (is : List Nat)
def Pt.is : Pt → List Nat
  | .n i => [i]
  | .t is => is
def setPt : Pt → D → List D → R (List D)
  | .n i => tName i
  | .t is => tNames is
def setPts : List Pt → List D → List D → R (List D)
  | [], [], rho => .ok rho
  | p :: ps, d :: ds, rho => match setPt p d rho with
    | .ok r => setPts ps ds r
    | .error e => .error e
  | _, _, _ => stuck
def tPts (ps : List Pt) : Ft := fun d rho => match d with
  | .tup ds => if ds.length = ps.length then setPts ps ds rho else stuck
  | _ => stuck
def gPt (K : PySem.W.Frag) : Pt → TG
  | .n i => gName i
  | .t is => gTup K is.length (gNames is)
def gPts (K : PySem.W.Frag) : List Pt → TGs
  | [] => gNil
  | p :: ps => gCons (gPt K p) (gPts K ps)
def shPt (Ga : List Sh) : Pt → List Sh
  | .n i => Ga.set i .s
  | .t is => shAll Ga is
def shPts (Ga : List Sh) : List Pt → List Sh
  | [] => Ga
  | p :: ps => shPts (shPt Ga p) ps
def isPts : List Pt → List Nat
  | [] => []
  | p :: ps => p.is ++ isPts ps
theorem shAll_len : ∀ {is : List Nat} {Ga : List Sh}, (shAll Ga is).length = Ga.length
  | [], _ => rfl
  | i :: is, Ga => by
    show (shAll (Ga.set i .s) is).length = _
    rw [shAll_len, List.length_set]
theorem shPt_len {p : Pt} : (shPt Ga p).length = Ga.length := by
  cases p with
  | n i => exact List.length_set
  | t is => exact shAll_len
theorem SemG.pt {p : Pt} (hi : p.is.all (fun i => decide (i < Ga.length)) = true) : SemG B true (gPt B.K p) Ga (shPt Ga p) p.is (setPt p) := by
  cases p with
  | n i => exact SemG.name (of_decide_eq_true (by simpa [Pt.is] using hi))
  | t is => exact SemG.names hi
theorem At.pts : ∀ {ps : List Pt} {Ga : List Sh} {fps : List (List Addr)} {sg : St} {rho : List D} {vs : List V} {ds : List D} {Q : St → Hp → Prop}, At B G H Ga fps sg rho → Reps B G vs ds → (isPts ps).all (fun i => decide (i < Ga.length)) = true →
    PostG B (shPts Ga ps) (isPts ps) sg G H fps.flatten Q (setPts ps ds rho) → gPts B.K ps vs sg H Q
  | [], Ga, fps, sg, rho, vs, ds, Q, a, r, hi, q => by
    cases r with
    | nil => exact ⟨rfl, q fps sg (fun x h => h) a fun _ _ => rfl⟩
    | cons => exact q.elim
  | p :: ps, Ga, fps, sg, rho, vs, ds, Q, a, r, hi, q => by
    cases r with
    | nil => exact q.elim
    | @cons v d vs ds r rs =>
      simp only [isPts, List.all_append, Bool.and_eq_true] at hi
      refine ⟨v, vs, rfl, SemG.pt hi.1 G H fps sg rho v d _ a r ?_⟩
      unfold setPts at q
      cases e : setPt p d rho with
      | error z =>
        rw [e] at q
        exact q.elim
      | ok r1 =>
        rw [e] at q
        intro fps1 sg1 sub a1 kk
        refine At.pts a1 rs ?_ ?_
        · rw [shPt_len]
          exact hi.2
        · simp only at q
          show PostG B (shPts (shPt Ga p) ps) (isPts ps) sg1 G H fps1.flatten Q (setPts ps ds r1)
          have q : PostG B (shPts (shPt Ga p) ps) (p.is ++ isPts ps) sg G H fps.flatten Q (setPts ps ds r1) := q
          cases e2 : setPts ps ds r1 with
          | error z =>
            rw [e2] at q
            exact q.elim
          | ok r2 =>
            rw [e2] at q
            exact fun fps2 sg2 sub2 a2 kk2 => q fps2 sg2 (fun x hx => sub x (sub2 x hx)) a2 fun j hj => by
              simp only [List.mem_append, not_or] at hj
              rw [kk2 j hj.2, kk j hj.1]
theorem SemG.pts {zz : Bool} {ps : List Pt} (hi : (isPts ps).all (fun i => decide (i < Ga.length)) = true) : SemG B zz (gTup B.K ps.length (gPts B.K ps)) Ga (shPts Ga ps) (isPts ps) (tPts ps) := fun G H fps sg rho v d Q a r p => by
  unfold tPts at p
  split at p
  · rename_i ds
    split at p
    · rename_i hl
      have r2 : ∃ b vs, v = .ref b ∧ SqT B.K G b vs ∧ Reps B G vs ds := by
        cases zz with
        | true =>
          have r : Rep B G v (.tup ds) := r
          cases r with
          | tup hq rs => exact ⟨_, _, rfl, hq.sqt, rs⟩
        | false =>
          rcases r with r | ⟨b, vs, ds2, e1, e2, hq, rs⟩
          · cases r with
            | tup hq rs => exact ⟨_, _, rfl, hq.sqt, rs⟩
          · cases e2
            exact ⟨b, vs, e1, hq, rs⟩
      obtain ⟨b, vs, rfl, hq, rs⟩ := r2
      exact ⟨_, _, rfl, a.ex.sqt hq, by rw [rs.length, hl], a.pts rs hi p⟩
    · exact p.elim
  · exact p.elim
theorem DS.forP {zz : Bool} (ps : List Pt) {tg : Expr} {wi : TI} {iter : Expr} (hp : ∀ ii, PassesOwn (model X.prog X.w) X.A (X.env ii) (X.xe ii)) (hc : X.calm = true) (hgt : ∀ ii, PG (X.at ii) tg (gTup X.K ps.length (gPts X.K ps))) (h : DI X zz W wi Ga tg iter Ga1 fs)
    (h1 : DB X W { C with bk := Ga1, ct := Ga1 } ts (shPts Ga1 ps) sts Ga1 f) (hi : (isPts ps).all (fun i => decide (i < Ga1.length)) = true := by rfl) (hP : (isPts ps).all (fun i => !C.P.contains i) = true := by rfl)
    (hs : ∀ ii, ∀ x, foldedSetIterable iter (X.env ii) x = pure x := by intro _; intro _; rfl) : DS X W C (tFor wi (gTup X.K ps.length (gPts X.K ps)) ts) Ga (.For tg iter sts [] pos) Ga1 (sFor fs (tPts ps) f) :=
  ⟨fun ii => ps_for (hp ii) hc (h.pe ii) (hgt ii) (h1.pe ii) (hs ii), SemS.for h.sm (SemG.pts hi) hP h1.sm⟩
/-! ### enumerate(tuple) -/
end
section
open PyProof.Rows
theorem draws_tup {prog : Program} {w : World} {A : Around} (hh : A.handled = none) (it l : Addr) (hne : l ≠ it) (items : Array Value) :
    Draws prog w A it [it, l] items.size (fun i v => items[i]? = some v) (fun i h => h.IsTupleIter it l i ∧ h.IsTuple l items) where
  live := fun _ _ st => let ⟨o, ho, _⟩ := st.1; ⟨o, ho⟩
  frame := fun _ _ _ st hk => ⟨st.1.at fun o e => hk it (by simp) o e, st.2.at fun o e => hk l (by simp) o e⟩
  item := fun i s Q E hi st hQ => by
    refine RZ.nextOf_tuple_item st.1 st.2 (x := items[i]) (by simp [hi]) fun h' hit' hs' => ?_
    exact hQ _ h' s.toks (by simp [hi]) ⟨hit', st.2.extBut hs'.extBut hne⟩ hs'
  done := fun s Q E st hE => RZ.nextOf_tuple_end hh st.1 st.2 (by simp) hE
/-- the tuple at a as it stands at each turn, each item in a new pair -/
def IteT (K : PySem.W.Frag) (a : Addr) : It :=
  ⟨fun i H => ∃ (xs : List V) (x : V), SqT K H a xs ∧ xs[i]? = some x, fun i H v H' => ∃ T x, v = .ref T ∧ H T = none ∧ H' = upd H T (.tup [.int (i : Nat), x]) ∧ ∀ xs, SqT K H a xs → xs[i]? = some x, fun i H => ∃ xs : List V, SqT K H a xs ∧ xs.length ≤ i⟩
theorem cls_ne {h : Heap} {a b : Addr} {o o2 : Obj} (e : h.get? a = some o) (f : h.get? b = some o2) (n : o.cls ≠ o2.cls) : a ≠ b := fun z => by
  rw [z, f] at e
  cases e
  exact n rfl
theorem wpAny_pyNext_enum_end_of {prog : Program} {w : World} {A : Around} {E : Value → Shared → Prop} {s : Shared} {e it l : Addr} {i : Nat} {items : Array Value} {old : Value} {Q : Option Value → Shared → Prop} (hh : A.handled = none)
    (he : IsEnum s.heap e it i old) (hit : s.heap.IsTupleIter it l i) (hl : s.heap.IsTuple l items) (hx : items[i]? = none)
    (hQ : ∀ h', Heap.ExtBut it s.heap h' → Q none { s with heap := h' }) : wpAny (model prog w) A (pyNext (.ref e)) Q E s := by
  have hT : s.TypeIs (.ref e) "enumerate" := ⟨_, he, rfl⟩
  unfold pyNext
  refine wpAny_bind (wpAny_attempt (wpAny_callSpecial?_slot (name := Str.ofString "__next__") hT F.slot_enumerate_next
    (wpAny_call_entry F.slot_enumerate_next hT F.entry_enumerate_next ?_ (F.args_enumerate_next_1 _))))
  show wpAny _ _ (field (.ref e) 2 >>= _) _ _ _
  refine wpAny_bind (wpAny_field he rfl (x := .ref it) rfl ?_)
  refine wpAny_bind (RZ.nextOf_tuple_end hh hit hl hx fun h' x he' hx' => ?_)
  obtain ⟨o, ho, hc⟩ := hx'
  refine wpAny_bind (wpAny_isInstance (T := "StopIteration") (b := true) ⟨o, ho, hc⟩ isSubtype_stop ?_)
  exact wpAny_pure (hQ _ he')
theorem turn_enumT {P : Program} {w : World} {K : PySem.W.Frag} {elts : List Expr} {kk : Nat} {tpos : Pos} (a e it : Addr) :
    Turn P w K (.Tuple elts kk tpos) (IteT K a) [e, it] e (fun i h => (∃ old, IsEnum h e it ((i : Nat) : Int) old) ∧ h.IsTupleIter it a i ∧ e ≠ it) where
  mem := by simp
  obj := fun i h st b hb => by
    obtain ⟨⟨old, he⟩, ⟨o, ho, hc, hd⟩, _⟩ := st
    have e' : b = e ∨ b = it := by simpa using hb
    rcases e' with z | z
    · rw [z]; exact ⟨_, he, fun v q => nomatch q⟩
    · rw [z]; exact ⟨o, ho, fun v q => by rw [hd] at q; cases q⟩
  keep := fun i h h' st k => let ⟨⟨old, he⟩, hi, hne⟩ := st; ⟨⟨old, k e (by simp) _ he⟩, hi.at fun o q => k it (by simp) o q, hne⟩
  item := by
    intro X hP hw hK hc i pins s σ H E I hf st hg
    subst hP hw hK
    obtain ⟨⟨old, he⟩, hit, hne⟩ := st
    obtain ⟨xs, x, hq, hx⟩ := hg
    obtain ⟨its, rv, p, hz⟩ := I.tuple hq
    obtain ⟨u, hu, ru⟩ := rv.get hx
    have hel : e < s.heap.objs.size := Heap.lt_size he
    have hil : it < s.heap.objs.size := by obtain ⟨_, q, _⟩ := hit; exact Heap.lt_size q
    have pt : s.heap.IsTuple a its.toArray := p
    have hai : a ≠ it := by
      obtain ⟨o1, e1, c1, _⟩ := pt
      obtain ⟨o2, e2, c2, _⟩ := hit
      exact cls_ne e1 e2 (by rw [c1, c2]; decide)
    have hea : e ≠ a := by
      obtain ⟨o1, e1, c1, _⟩ := pt
      exact cls_ne he e1 (by rw [c1]; exact (show Value.type "enumerate" ≠ Value.type "tuple" by decide))
    have hlt : i < its.toArray.size := by
      rw [List.size_toArray, ← rv.length]
      exact (List.getElem?_eq_some_iff.mp hx).1
    refine wpAny_pyNext_enum_itemD (draws_tup (A := X.A.in1) (show X.A.in1.handled = none from I.ok.hd hc) it a hai its.toArray) he ⟨hit, pt⟩ hlt hne (by simp [hne, hea]) fun x' h' tk hPx ho hst' hT hsz hk => ?_
    have ex : x' = u := by
      rw [List.getElem?_toArray, hu] at hPx
      exact (Option.some.inj hPx).symm
    subst ex
    refine ⟨_, rfl, wpAny_letOwnedTupleGo_enum (s := { s with heap := h', toks := tk + 1 }) ho fun h'' he' sb => ?_⟩
    have hT2 : h''.get? s.heap.objs.size = some { cls := .type "tuple", data := .seq #[.int i tk, x'] } := (sb.2 _ (Nat.ne_of_gt hel)).trans hT
    have new : ObjOk X.prog X.w (upd H s.heap.objs.size (.tup [.int (i : Nat), x])) h'' s.heap.objs.size (.tup [.int (i : Nat), x]) :=
      ⟨by show 2 ≤ sizeLine; decide, [.int i tk, x'], .cons ⟨_, rfl⟩ (.cons ru .nil), ⟨_, hT2, rfl, _, rfl⟩⟩
    have I1 : Inv X pins σ (upd H s.heap.objs.size (.tup [.int (i : Nat), x])) { s with heap := h'', toks := tk + 1 } :=
      I.turnedNew (ch := [e, it]) (fun b ob hb q => (sb.2 b (fun z => hb (by simp [z]))).trans (hk b ob (fun z => hb (by simp [z])) (fun z => hb (by simp [z])) q)) hf (Nat.le_refl _) new
    refine ⟨.ref s.heap.objs.size, _, I1, rfl, ⟨_, x, rfl, I.hok.fresh (Nat.le_refl _), rfl, fun ys hy => by rw [I.tuple_inj hy hq]; exact hx⟩, ⟨⟨x', ?_⟩, hst'.1.at fun o q => (sb.2 it (Ne.symm hne)).trans q, hne⟩, fun b hb => ?_⟩
    · have e1 : ((i + 1 : Nat) : Int) = (i : Int) + 1 := by omega
      rw [e1]; exact he'
    · have hb' : b < s.heap.objs.size := by
        have e' : b = e ∨ b = it := by simpa using hb
        rcases e' with z | z
        · rw [z]; exact hel
        · rw [z]; exact hil
      rw [upd_ne (Nat.ne_of_lt hb')]
      exact (hf b hb).1
  done := by
    intro X hP hw hK hc i pins s σ H E I hf st hg
    subst hP hw hK
    obtain ⟨⟨old, he⟩, hit, hne⟩ := st
    obtain ⟨xs, hq, hx⟩ := hg
    obtain ⟨its, rv, p, hz⟩ := I.tuple hq
    obtain ⟨f0, f1, f2, f3, f4, f5⟩ := hf it (by simp)
    have hl := rv.length
    have pt : s.heap.IsTuple a its.toArray := p
    have hai : a ≠ it := by
      obtain ⟨o1, e1, c1, _⟩ := pt
      obtain ⟨o2, e2, c2, _⟩ := hit
      exact cls_ne e1 e2 (by rw [c1, c2]; decide)
    refine wpAny_pyNext_enum_end_of (I.ok.hd hc) he hit pt (by simp; omega) fun h' eb => ⟨rfl, I.turned (t' := s.toks) (fun b o hb q => eb b o hb q) f0 f1 f3 f4 f5⟩
  self := fun A i s Q E st h => let ⟨⟨_, he⟩, _⟩ := st; wpAny_pyIter_enum he h
theorem meets_enumerate_newT (l : Addr) (items : Array Value) (n : Nat) (dct : Option Addr) (sl : Array (Option Value)) :
    Meets (Builtin.«enumerate.__new__» ⟨[.type "enumerate", .ref l], []⟩) (fun _ R s => s.heap.get? l = some { cls := .type "tuple", dict := dct, data := .seq items n, slots := sl } ∧
      R (.ok (.ret (.ref (s.heap.push { cls := .type "tuple_iterator", data := .fields #[.ref l, .int 0 0] }).objs.size)))
        { s with heap := (s.heap.push { cls := .type "tuple_iterator", data := .fields #[.ref l, .int 0 0] }).push { cls := .type "enumerate", data := .fields #[.none, .bool false, .ref s.heap.objs.size, rawInt 0, .none, .none] } }) :=
  .of_wp fun prog w A R s h => by
    obtain ⟨hp, g, d, tk, os⟩ := s; obtain ⟨hl, h⟩ := h
    have hsub := PySem.sub_enumerate
    have hL : Heap.IsTuple (Shared.heap ⟨hp, g, d, tk, os⟩) l items := ⟨_, hl, rfl, n, rfl⟩
    wp_walk using PySem.AutoSeq1.wpAny_loadPart' hl
    refine wpAny_stack_any fun st => wpAny_pure ?_
    split
    · rename_i c _ _ _ _ _
      cases (c == Value.type "enumerate")
      · wp_walk using PySem.AutoSeq1.wpAny_loadPart' hl, wpAny_pyIter_tuple hL
        exact ⟨_, rfl, h⟩
      · wp_walk using PySem.AutoSeq1.wpAny_loadPart' hl, wpAny_pyIter_tuple hL
        exact ⟨_, rfl, h⟩
    · wp_walk using PySem.AutoSeq1.wpAny_loadPart' hl, wpAny_pyIter_tuple hL
      exact ⟨_, rfl, h⟩
theorem call_enumerate_tuple {prog : Program} {w : World} {A : Around} {E : Value → Shared → Prop} {s : Shared} {l : Addr} {items : Array Value} {Q : Value → Shared → Prop} (hL : s.heap.IsTuple l items)
    (h : ∀ h', IsEnum h' (s.heap.objs.size + 1) s.heap.objs.size 0 .none → h'.IsTupleIter s.heap.objs.size l 0 → h'.objs.size = s.heap.objs.size + 2 →
      (∀ b o, s.heap.get? b = some o → h'.get? b = some o) → Q (.ref (s.heap.objs.size + 1)) { s with heap := h' }) :
    wpAny (model prog w) A (call (.type "enumerate") [.ref l]) Q E s := by
  obtain ⟨⟨c, dct, dt, sl⟩, hl, hc, n, hd⟩ := hL
  replace hc : c = .type "tuple" := hc
  replace hd : dt = .seq items n := hd
  subst hc hd
  refine callType_new F.called_enumerate (by decide) (F.typeCall_enumerate_1 _) (F.newCall_enumerate_1 _) (fun obj => F.args_object_init_2 obj _) F.entry_enumerate_new
    (meets_enumerate_newT l items n dct sl) ⟨hl, ?_⟩
  have hz : (s.heap.push { cls := .type "tuple_iterator", data := .fields #[.ref l, .int 0 0] }).objs.size = s.heap.objs.size + 1 := Heap.size_push ..
  show _ ∧ _
  rw [hz]
  have he : IsEnum ((s.heap.push { cls := .type "tuple_iterator", data := .fields #[.ref l, .int 0 0] }).push
      { cls := .type "enumerate", data := .fields #[.none, .bool false, .ref s.heap.objs.size, rawInt 0, .none, .none] }) (s.heap.objs.size + 1) s.heap.objs.size 0 .none := by
    have := Heap.get?_push_size (s.heap.push { cls := .type "tuple_iterator", data := .fields #[.ref l, .int 0 0] })
      (o := { cls := .type "enumerate", data := .fields #[.none, .bool false, .ref s.heap.objs.size, rawInt 0, .none, .none] }) rfl
    rw [hz] at this; exact this
  refine ⟨⟨_, he, rfl⟩, h _ he ⟨_, Heap.get?_push_of_some _ (Heap.get?_push_size _ rfl), rfl, rfl⟩ (by rw [Heap.size_push, hz]) fun b o x => Heap.get?_push_of_some _ (Heap.get?_push_of_some _ x)⟩
end
section
variable {I : Type} {X : Cf I} {W : WX} {C : Ctl} {Ga Ga1 Ga2 Ga3 : List Sh} {fa : Fx} {fs : Fs} {a b c e : Expr} {ta : TE} {pos p p2 p3 : Pos}
def iEnumA (K : PySem.W.Frag) (ta : TA) : TI := fun σ H R => ta σ H fun vs H1 => ∃ a xs, vs = [.ref a] ∧ ((SqL K H1 a xs ∧ R (Ite K a) H1) ∨ (SqT K H1 a xs ∧ R (IteT K a) H1))
theorem pi_enumA {X : Cx} {e : Expr} {ta : TA} {p pos tpos : Pos} {elts : List Expr} {kk : Nat} (hg : Gl X "enumerate") (hm : X.mg "enumerate" = none) (ha : PA X [e] ta) (hs : starEach [e] X.env = [(false, eval e X.env)] := by rfl) :
    PI X (.Tuple elts kk tpos) (.Call (.Name "enumerate" p) [e] [] pos) (iEnumA X.K ta) := by
  refine ⟨fun pins s σ H R I h => ?_⟩
  refine PyProof.Rows.Call_ (ld_blt I hg hm PyProof.Rows.boot_enumerate (PyProof.Rows.callWith_type1 (thn (ha.run pos pins s σ H _ I h) fun us s1 ⟨vs, H1, I1, r1, q1⟩ => ?_) hs rfl))
  obtain ⟨a, xs, ex, hq⟩ := q1
  subst ex
  cases r1 with
  | cons r rr =>
    cases rr
    cases r
    have fr : ∀ b, b ∈ [s1.heap.objs.size + 1, s1.heap.objs.size] → FpOk X pins H1 b := fun b hb => by
      have e' : b = s1.heap.objs.size + 1 ∨ b = s1.heap.objs.size := by simpa using hb
      have hle : s1.heap.objs.size ≤ b := by
        rcases e' with z | z
        · rw [z]; exact Nat.le_add_right _ _
        · rw [z]; exact Nat.le_refl _
      exact I1.fpOk hle (I1.hok.fresh hle)
    rcases hq with ⟨hq, q⟩ | ⟨hq, q⟩
    · obtain ⟨its, rv, p', hz⟩ := I1.list hq
      refine call_enumerate_list p'.isList fun h' he hit hsz hk => wpAny_pyIter_enum he ?_
      have I2 : Inv X pins σ H1 { s1 with heap := h' } := I1.kept (t' := s1.toks) hk
      exact ⟨s1.heap.objs.size + 1, [s1.heap.objs.size + 1, s1.heap.objs.size], _, _, H1, rfl, I2, turn_enum a (s1.heap.objs.size + 1) s1.heap.objs.size, ⟨⟨.none, he⟩, hit, Nat.succ_ne_self _⟩, fr, q⟩
    · obtain ⟨its, rv, p', hz⟩ := I1.tuple hq
      refine call_enumerate_tuple (show s1.heap.IsTuple a its.toArray from p') fun h' he hit hsz hk => wpAny_pyIter_enum he ?_
      have I2 : Inv X pins σ H1 { s1 with heap := h' } := I1.kept (t' := s1.toks) hk
      exact ⟨s1.heap.objs.size + 1, [s1.heap.objs.size + 1, s1.heap.objs.size], _, _, H1, rfl, I2, turn_enumT a (s1.heap.objs.size + 1) s1.heap.objs.size, ⟨⟨.none, he⟩, hit, Nat.succ_ne_self _⟩, fr, q⟩
def fEnumA (fa : Fx) : Fs := fun rho => match fa rho with
  | .ok (d, rho1) => match d with
    | .lst x => .ok (enumD 0 x, rho1)
    | .tup x => .ok (enumD 0 x, rho1)
    | _ => stuck
  | .error e => .error e
theorem walks_enumT {l : Addr} {vs : List V} {ds : List D} (h : SqT B.K G l vs) (r : Reps B G vs ds) : Walks B false G (IteT B.K l) (enumD 0 ds) where
  go := fun i H hi x => by
    rw [enumD_len] at hi
    obtain ⟨v, hv, _⟩ := r.get (List.getElem?_eq_getElem hi)
    exact ⟨vs, v, x.sqt h, hv⟩
  stop := fun H x => ⟨vs, x.sqt h, by rw [enumD_len, r.length]; omega⟩
  yld := fun i G2 H x H' y x1 x2 hi => by
    obtain ⟨T, v, rfl, hT, rfl, k1⟩ := y
    have hv := k1 vs ((x1.trans x2).sqt h)
    obtain ⟨d, e1, q1⟩ := r.get' hv
    obtain ⟨s1, s2, s3⟩ := new_pair hT x2 (Rep.int (B := B) (G := G2) ((i : Nat) : Int)) (q1.mono x1)
    exact ⟨.tup [.int (i : Nat), d], _, by rw [enumD_at, e1]; simp, s1, s2, s3⟩
theorem SemI.enumA (h : Sem B W ta Ga Ga1 .s fa) : SemI B false W (iEnumA B.K (tCons ta tNil)) Ga Ga1 (fEnumA fa) := fun G H fps sg rho Q av p => by
  refine h G H fps sg rho _ av ?_
  unfold fEnumA at p
  cases e : fa rho with
  | error x =>
    rw [e] at p
    cases x with
    | exc c => exact p
    | stuck => exact p
    | fuel => exact p
  | ok z =>
    obtain ⟨d, rho1⟩ := z
    rw [e] at p
    intro G1 H1 fps1 fp v r
    obtain ⟨rfl, rv⟩ := r.vl.of_s
    have st := r.st
    rw [List.append_nil] at st
    simp only at p
    cases d with
    | lst ds =>
      cases rv with
      | lst hl rs => exact ⟨_, _, rfl, .inl ⟨(r.av.ex.sl hl).sq, p G1 H1 fps1 _ st r.av (walks_enum hl rs)⟩⟩
    | tup ds =>
      cases rv with
      | tup hl rs => exact ⟨_, _, rfl, .inr ⟨r.av.ex.sqt hl.sqt, p G1 H1 fps1 _ st r.av (walks_enumT hl.sqt rs)⟩⟩
    | _ => exact p.elim
theorem DI.enumA {elts : List Expr} {kk : Nat} {tpos : Pos} (hm : X.mg "enumerate" = none) (h : DE X W ta Ga a Ga1 .s fa) (hg : ∀ ii, Gl (X.at ii) "enumerate" := by intro _; rfl) (hs : ∀ ii, starEach [a] (X.env ii) = [(false, eval a (X.env ii))] := by intro _; rfl) (hs0 : ∀ ii, starEach (a :: []) (X.env ii) = (false, eval a (X.env ii)) :: starEach [] (X.env ii) := by intro _; rfl) :
    DI X false W (iEnumA X.K (tCons ta tNil)) Ga (.Tuple elts kk tpos) (.Call (.Name "enumerate" p) [a] [] pos) Ga1 (fEnumA fa) := ⟨fun ii => pi_enumA (hg ii) hm (pa_cons (h.pe ii) pa_nil (hs0 ii)) (hs ii), SemI.enumA h.sm⟩
end
/-! ### range(i, j, -1) -/
section
variable {I : Type} {X : Cf I} {W : WX} {C : Ctl} {Ga Ga1 Ga2 Ga3 : List Sh} {fs : Fs} {a b c e : Expr} {tr : TA} {pos p p2 p3 : Pos}
def fRng3 (fs : Fs) : Fs := fun rho => match fs rho with
  | .ok (ds, rho1) => match ds with
    | [.int i, .int j, .int k] => if k = -1 ∧ (-4611686018427387904 ≤ i ∧ i < 4611686018427387904) ∧ -4611686018427387904 ≤ j ∧ j < 4611686018427387904 then .ok ((List.range (i - j).toNat).map fun (k : Nat) => D.int (i - k), rho1) else stuck
    | _ => stuck
  | .error e => .error e
theorem walks_rngD {lo : Int} {n : Nat} : Walks B true G (Itc lo (-1) n) ((List.range n).map fun (k : Nat) => D.int (lo - k)) where
  go := fun i H hi x => by
    show i < n
    simpa using hi
  stop := fun H x => by
    show n ≤ _
    simp
  yld := fun i G2 H x H' y x1 x2 hi => by
    obtain ⟨rfl, rfl⟩ := y
    have e : lo + (i : Int) * -1 = lo - i := by omega
    rw [e]
    refine ⟨.int (lo - i), G2, ?_, fun A => Step.refl _ _ _, x2, .int _⟩
    have hi' : i < n := by simpa using hi
    simp [hi']
theorem SemI.rng3 (h : SemA B W tr Ga Ga1 [.s, .s, .s] fs) : SemI B true W (iRng3 tr) Ga Ga1 (fRng3 fs) := fun G H fps sg rho Q av p => by
  refine h G H fps sg rho _ av ?_
  unfold fRng3 at p
  cases e : fs rho with
  | error x =>
    rw [e] at p
    cases x with
    | exc c => exact p
    | stuck => exact p
    | fuel => exact p
  | ok z =>
    obtain ⟨ds, rho1⟩ := z
    rw [e] at p
    intro G1 H1 fps1 vs st a1 vl
    simp only at p
    split at p
    · rename_i i j k
      split at p
      · rename_i hz
        cases vl with
        | cons v1 vl =>
          cases vl with
          | cons v2 vl =>
            cases vl with
            | cons v3 vl =>
              cases vl
              cases v1.of_s.2
              cases v2.of_s.2
              cases v3.of_s.2
              obtain ⟨rfl, h1, h2⟩ := hz
              exact ⟨i, j, -1, (i - j).toNat, rfl, RgC.neg (by omega) (by omega) (by omega) (by omega), p G1 H1 fps1 _ st a1 walks_rngD⟩
      · exact p.elim
    · exact p.elim
theorem DI.rng3 {tg : Expr} (hm : X.mg "range" = none) (h : DA X W tr Ga [a, b, c] Ga1 [.s, .s, .s] fs) (hg : ∀ ii, Gl (X.at ii) "range" := by intro _; rfl) (hs : ∀ ii, starEach [a, b, c] (X.env ii) = (false, eval a (X.env ii)) :: starEach [b, c] (X.env ii) := by intro _; rfl) (hpl : ∀ ii, (backTo pos (starEach [b, c] (X.env ii))).any (·.1) = false := by intro _; rfl) :
    DI X true W (iRng3 tr) Ga tg (.Call (.Name "range" p) [a, b, c] [] pos) Ga1 (fRng3 fs) := ⟨fun ii => pi_range3 (hg ii) hm (h.pe ii) (hs ii) (hpl ii), SemI.rng3 h.sm⟩
end
/-! ### rules -/
section
variable {fa : Fx} {rho : List D} {PA : List D → List D → Prop}
@[simp] theorem w_enumA : wE (fEnumA fa rho) PA = wE (fa rho) fun d r => ∃ ds, d.seq = some ds ∧ PA (enumD 0 ds) r := by
  unfold fEnumA wE
  cases fa rho with
  | error e => rfl
  | ok z =>
    obtain ⟨d, r⟩ := z
    cases d <;> simp [D.seq, stuck]
@[simp] theorem w_rng3 {fs : Fs} : wE (fRng3 fs rho) PA = wE (fs rho) fun ds r => ∃ i j : Int, ds = [.int i, .int j, .int (-1)] ∧ ((-4611686018427387904 ≤ i ∧ i < 4611686018427387904) ∧ -4611686018427387904 ≤ j ∧ j < 4611686018427387904) ∧ PA ((List.range (i - j).toNat).map fun (k : Nat) => D.int (i - k)) r := by
  unfold fRng3 wE
  cases fs rho with
  | error e => rfl
  | ok z =>
    obtain ⟨ds, r⟩ := z
    simp only
    split
    · rename_i e
      split at e
      · split at e
        · rename_i i j k h
          obtain ⟨rfl, h1, h2⟩ := h
          cases e
          refine propext ⟨fun q => ⟨i, j, rfl, ⟨h1, h2⟩, q⟩, ?_⟩
          rintro ⟨i', j', e2, _, q⟩
          cases e2
          exact q
        · cases e
      · cases e
    · rename_i e
      refine propext ⟨fun q => q.elim, ?_⟩
      rintro ⟨i', j', rfl, hb, q⟩
      simp only at e
      rw [if_pos ⟨trivial, hb⟩] at e
      cases e
@[simp] theorem dDivmod_i {i j : Int} {P : D → Prop} : wR (dDivmod [.int i, .int j]) P = ((0 < j ∧ j.natAbs.log2 < 9000) ∧ P (.tup [.int (i / j), .int (i % j)])) := by
  show wR (if 0 < j ∧ j.natAbs.log2 < 9000 then Except.ok (D.tup [.int (i / j), .int (i % j)]) else stuck) P = _
  by_cases h : 0 < j ∧ j.natAbs.log2 < 9000
  · rw [if_pos h, wR_ok, eq_true h, true_and]
  · rw [if_neg h, eq_false h, false_and]
    rfl
@[simp] theorem tPts_2n {i : Nat} {is : List Nat} {x : D} {ys : List D} {rho : List D} : tPts [.n i, .t is] (.tup [x, .tup ys]) rho = (if ys.length = is.length then .ok (setAll (rho.set i x) is ys) else stuck) := by
  show setPts [.n i, .t is] [x, .tup ys] rho = _
  unfold setPts setPts setPts
  show (match tNames is (.tup ys) (rho.set i x) with | .ok r => Except.ok r | .error e => Except.error e) = _
  unfold tNames
  by_cases h : ys.length = is.length
  · simp only [if_pos h]
  · simp only [if_neg h, stuck]
end
end EB
namespace EB
open PySem L2
variable {B : Bd} {G G' G1 G2 G3 H H' H1 H2 H3 : Hp} {A A1 A2 A3 F : List Addr}
/-! ### a try's body that hands back -/
structure DXB {I : Type} (X : Cf I) (C : Ctl) (tb : WX → TS) (Ga : List Sh) (sts : List Stmt) (Ga' : List Sh) (f : Fst) : Prop where
  pe : ∀ W, ∀ j : X.trI W, PSs ((X.trf W).at j) sts (tb W)
  sm : ∀ W, SemX (bd X) W C (tb W) Ga Ga' f
section
variable {I : Type} {X : Cf I} {C : Ctl} {Ga Ga1 Ga2 Ga3 : List Sh} {sa sb sh : Sh} {fa fb : Fx} {a b c e : Expr} {te : WX → TE} {tt : WX → TT} {cf : Fb} {pos p p2 p3 : Pos} {tb tu : WX → TS} {f g : Fst} {st st2 : Stmt} {sts : List Stmt}
theorem SemX.ret {W : WX} {ta : TE} (h : Sem B W ta Ga Ga1 sh fa) (hr : sh = C.rs) (ho : sh ≠ .u) (hb : ∀ i, sh ≠ .b i) (hm : drops Ga1 (others Ga1.length C.P) = C.M) : SemX B W C (tRet ta) Ga Ga2 (sRet fa) := fun G H fps sg rho E a p => by
  subst hr
  refine h G H fps sg rho E.rt a ?_
  unfold sRet at p
  cases e : fa rho with
  | ok z =>
    obtain ⟨d, rho1⟩ := z
    rw [e] at p
    intro G1 H1 fps1 fp v r
    obtain ⟨f2, s2, a2⟩ := r.av.mdrop (others Ga1.length C.P)
    rw [hm] at a2
    have vl : Own B G1 H1 C.rs fp (some v) d := by
      have := r.vl
      generalize C.rs = q at this hb
      cases q with
      | b i => exact absurd rfl (hb i)
      | _ => exact this
    have sub : ∀ x ∈ f2.flatten, x ∈ fps1.flatten := fun x hx => by
      rcases s2.foot x hx with z | z
      · exact z
      · exact absurd z (OwnL.dom a2.own x hx)
    have nd := List.nodup_append.mp r.nd
    refine p G1 H1 f2 sg fp v (r.st.sub fun x hx => ?_) a2 (Kp.refl _ _) vl (List.nodup_append.mpr ⟨a2.nd, nd.2.1, fun x hx y hy e => nd.2.2 x (sub x hx) y hy e⟩) r.gn
    rcases List.mem_append.mp hx with z | z
    · exact List.mem_append_left _ (sub x z)
    · exact List.mem_append_right _ z
  | error x =>
    rw [e] at p
    exact p.errE
theorem DX.ret (h : ∀ W, DE (X.trf W) W (te W) Ga e Ga1 sh fa) (hr : sh = C.rs := by rfl) (hv : sh.val = true := by rfl) (hm : drops Ga1 (others Ga1.length C.P) = C.M := by rfl) : DX X C (fun W => tRet (te W)) Ga (.Return (some e) pos) Ga2 (sRet fa) := by
  refine ⟨fun W j => ps_ret ((h W).pe j), fun W => SemX.ret (h W).sm hr (fun z => ?_) (fun i z => ?_) hm⟩
  · rw [z] at hv
    cases hv
  · rw [z] at hv
    cases hv
theorem DXB.one (h : DX X C tb Ga st Ga1 f) : DXB X C tb Ga [st] Ga1 f := ⟨fun W j => pss_one (h.pe W j), h.sm⟩
theorem DXB.ifRet (h : ∀ W, DT (X.trf W) W (tt W) Ga c Ga1 cf) (h1 : DX X C (fun W => tRet (te W)) Ga1 st Ga2 f) (h2 : DXB X C tu Ga1 sts Ga2 g) :
    DXB X C (fun W => tSeq (tIfS (tt W) (tRet (te W)) tNext) (tu W)) Ga (.If c [st] [] pos :: sts) Ga2 (sIf cf f g) :=
  ⟨fun W j => pss_cons (ps_if ((h W).pe j) (pss_one (h1.pe W j)) pss_nil) (h2.pe W j), fun W => SemX.ite (h W).sm (h1.sm W) (h2.sm W)⟩
theorem DXB.fin (Gb : List Sh) (h : DXB X C tb Ga sts Gb f) : DXB X C tb Ga sts Gb f := h
theorem DS.tryB {W : WX} {x n : Str} {Cv : Value} {i : Nat} {l : List Str} {ts : Addr → TS} {b₀ : Stmt} {suite : List Stmt} {np pos' : Pos} (hst : ∀ ii, X.stack ii = X.env ii :: X.outer ii) (hfr : ∀ ii, (X.env ii).frame = some (X.env ii).locals) (hex : ∀ ii, X.ex ii = []) (hN : X.N.Nodup)
    (hc : ∀ ii, Names (X.at ii) x Cv) (hx : ∀ c ∈ l, ∀ Cl, X.mg c = some (.ref Cl) → PySem.W.exmOne X.K (.ref Cl) Cv = some true)
    (hb : DXB X C tb Ga sts Ga1 f) (hsu : ∀ a, DB (X.sut a) W0 C (ts a) ((dem Ga).set i .s) (b₀ :: suite) Ga1 g)
    (hn : X.N[i]? = some n := by rfl) (hln : ∀ ii, (X.env ii).kindOf n = some .local := by intro _; rfl) (hi : decide (i < Ga.length) = true := by rfl) (hiP : C.P.contains i = false := by rfl)
    (hbk : (match C.bk[i]? with | none => true | some .u => true | _ => false) = true := by rfl) (hct : (match C.ct[i]? with | none => true | some .u => true | _ => false) = true := by rfl) (h1 : Ga1[i]? = some .u := by rfl) :
    DS X W C (fun D σ H => tb (wAsT X.K Cv i ts D) D σ H) Ga (.Try sts [.ExceptHandler (some (.Name x np)) (some n) (b₀ :: suite) pos'] [] [] pos) Ga1 (sTry l i f g) := by
  have z : ∀ {o : Option Sh}, (match o with | none => true | some .u => true | _ => false) = true → o = none ∨ o = some .u := fun {o} h => by
    split at h
    · exact .inl rfl
    · exact .inr rfl
    · cases h
  exact ⟨fun ii => ps_try_asT (X := X.at ii) (hst ii) (hfr ii) (hex ii) hN hn (hln ii) (hc ii) (fun W pn xe tk po => hb.pe W ⟨(ii, pn, xe), tk, po⟩) (fun a pn => (hsu a).pe (ii, pn)),
    SemS.tryAs (of_decide_eq_true hi) hiP hx hb.sm (fun a => (hsu a).sm) (z hbk) (z hct) h1⟩
end
/-! ### rules -/
theorem wXE_lst1 {fa : Fx} {rho : List D} {P : D → List D → Prop} {X : Str → Prop} (h : wXE (fa rho) (fun d r => P (.lst [d]) r) X) : wXE (fLst (fCons fa fNil) rho) P X := by
  unfold fLst fArgs fCons fNil
  unfold wXE at h ⊢
  cases e : fa rho with
  | ok z =>
    rw [e] at h
    exact h
  | error z =>
    rw [e] at h
    cases z <;> exact h
end EB
namespace EB
open PySem L2
/-! ### nets -/
abbrev Net := List (Int × Option Nat)
def nD (k : Nat) : D := .int (k : Nat)
def optD : Option Nat → D
  | none => .non
  | some k => .int (k : Nat)
@[simp] theorem optD_none : optD none = .non := rfl
@[simp] theorem optD_some {k : Nat} : optD (some k) = .int (k : Nat) := rfl
def lampD (l : Int × Option Nat) : D := .tup [.int l.1, optD l.2]
def netD (n : Net) : D := .tup (n.map lampD)
structure NetOk (n : Net) : Prop where
  lo : 1 ≤ n.length
  hi : n.length ≤ 12
  ln : ∀ l ∈ n, 1 ≤ l.1
  nx : ∀ l ∈ n, ∀ k, l.2 = some k → k < n.length
def len (n : Net) (i : Nat) : Int := match n[i]? with
  | some l => l.1
  | none => 1
def nxt (n : Net) (i : Nat) : Option Nat := match n[i]? with
  | some l => l.2
  | none => none
theorem net_at {n : Net} {i : Nat} (h : i < n.length) : (n.map lampD)[i]? = some (.tup [.int (len n i), optD (nxt n i)]) := by
  simp only [List.getElem?_map, len, nxt, List.getElem?_eq_getElem h, Option.map_some, lampD]
theorem NetOk.len {n : Net} (h : NetOk n) (i : Nat) : 1 ≤ len n i := by
  unfold EB.len
  cases e : n[i]? with
  | none => simp
  | some l => exact h.ln l (List.mem_of_getElem? e)
theorem NetOk.nxt {n : Net} (h : NetOk n) {i k : Nat} (e : nxt n i = some k) : k < n.length := by
  unfold EB.nxt at e
  cases e2 : n[i]? with
  | none => simp [e2] at e
  | some l =>
    rw [e2] at e
    exact h.nx l (List.mem_of_getElem? e2) k e
@[simp] theorem dIx_net {n : Net} {i : Nat} (h : i < n.length) : dIx (netD n) (.int (i : Nat)) = .ok (.tup [.int (len n i), optD (nxt n i)]) := dIx_nat rfl (net_at h)
/-! what a lamp number, a lamp, a net, a kindling is, of plain things -/
def NI (x : D) : Prop := ∃ k, PlN k x
theorem NI.tup {ds : List D} (h : NI (.tup ds)) : ∀ d ∈ ds, NI d := by
  obtain ⟨k, h⟩ := h
  cases k with
  | zero => exact h.elim
  | succ k => exact fun d hd => ⟨k, h d hd⟩
theorem NI.lst {ds : List D} (h : NI (.lst ds)) : ∀ d ∈ ds, NI d := by
  obtain ⟨k, h⟩ := h
  cases k with
  | zero => exact h.elim
  | succ k => exact fun d hd => ⟨k, h d hd⟩
theorem NI.ins {c : Str} {fs : List Str} {ds : List D} (h : NI (.ins c fs ds)) : False := by
  obtain ⟨k, h⟩ := h
  cases k <;> exact h
theorem NI.dct {c : List Key} {ds : List D} (h : NI (.dct c ds)) : False := by
  obtain ⟨k, h⟩ := h
  cases k <;> exact h
@[simp] theorem NI_int {i : Int} : NI (.int i) := ⟨0, trivial⟩
@[simp] theorem NI_bl {i : Bool} : NI (.bl i) := ⟨0, trivial⟩
@[simp] theorem NI_non : NI .non := ⟨0, trivial⟩
theorem NI.of_tup {ds : List D} {k : Nat} (h : ∀ d ∈ ds, PlN k d) : NI (.tup ds) := ⟨k + 1, h⟩
theorem PlN_lamp {l : Int × Option Nat} {k : Nat} : PlN (k + 1) (lampD l) := by
  unfold lampD
  cases l.2 <;> simp
theorem PlN_net {n : Net} {k : Nat} : PlN (k + 2) (netD n) := by
  unfold netD
  simp only [PlN_tup, List.mem_map, forall_exists_index, and_imp]
  rintro _ l _ rfl
  exact PlN_lamp
theorem NI_net {n : Net} : NI (netD n) := ⟨2, PlN_net⟩
def wholeB : D → Bool
  | .int _ => true
  | _ => false
def belowB (x : D) (many : Int) : Bool := match x with
  | .int i => decide (0 ≤ i) && decide (i < many)
  | _ => false
def lampB (many : Int) (x : D) : Bool := match x with
  | .tup [a, b] => (match a with | .int i => decide (1 ≤ i) | _ => false) && (b.isN || belowB b many)
  | _ => false
def isNetB (x : D) : Bool := match x with
  | .tup ds => (decide (1 ≤ ds.length) && decide (ds.length ≤ 12)) && ds.all (lampB ds.length)
  | _ => false
def kindB (many : Int) (x : D) : Bool := match x with
  | .tup [a, b] => (match a with | .int i => decide (0 ≤ i) | _ => false) && belowB b many
  | _ => false
theorem NetOk.lampB {n : Net} (h : NetOk n) : ∀ l ∈ n, EB.lampB n.length (lampD l) = true := fun l hl => by
  have h1 := h.ln l hl
  unfold EB.lampB lampD
  simp only [h1, decide_true, Bool.true_and]
  cases e : l.2 with
  | none => rfl
  | some k =>
    have := h.nx l hl k e
    simp [belowB, this]
theorem NetOk.isNet {n : Net} (h : NetOk n) : isNetB (netD n) = true := by
  unfold isNetB netD
  simp only [List.length_map, h.lo, h.hi, decide_true, Bool.true_and, List.all_eq_true, List.mem_map, forall_exists_index, and_imp]
  rintro _ l hl rfl
  exact h.lampB l hl
theorem lampB_is {many : Int} {x : D} (h : lampB many x = true) : ∃ l : Int × Option Nat, x = lampD l ∧ 1 ≤ l.1 ∧ ∀ k : Nat, l.2 = some k → (k : Int) < many := by
  unfold lampB at h
  split at h
  · rename_i a b
    rw [Bool.and_eq_true] at h
    obtain ⟨h1, h2⟩ := h
    split at h1
    · rename_i i
      have h1 := of_decide_eq_true h1
      cases b with
      | non => exact ⟨(i, none), rfl, h1, fun k e => by cases e⟩
      | int j =>
        simp only [isN_int, Bool.false_or, belowB, Bool.and_eq_true, decide_eq_true_eq] at h2
        refine ⟨(i, some j.toNat), ?_, h1, fun k e => ?_⟩
        · simp only [lampD, optD_some]
          rw [Int.toNat_of_nonneg h2.1]
        · cases e
          rw [Int.toNat_of_nonneg h2.1]
          exact h2.2
      | _ => simp [belowB, D.isN] at h2
    · cases h1
  · cases h
theorem isNet_is {x : D} (h : isNetB x = true) : ∃ n, x = netD n ∧ NetOk n := by
  unfold isNetB at h
  split at h
  · rename_i ds
    simp only [Bool.and_eq_true, decide_eq_true_eq, List.all_eq_true] at h
    obtain ⟨⟨h1, h2⟩, h3⟩ := h
    have key : ∀ l : List D, (∀ d ∈ l, lampB ds.length d = true) → ∃ n : Net, l = n.map lampD ∧ (∀ x ∈ n, 1 ≤ x.1) ∧ ∀ x ∈ n, ∀ k : Nat, x.2 = some k → (k : Int) < ds.length := by
      intro l
      induction l with
      | nil => exact fun _ => ⟨[], rfl, by simp, by simp⟩
      | cons d l ih =>
        intro h
        obtain ⟨n, e, a, b⟩ := ih fun x hx => h x (List.mem_cons_of_mem _ hx)
        obtain ⟨y, e2, a2, b2⟩ := lampB_is (h d List.mem_cons_self)
        exact ⟨y :: n, by rw [e, e2]; rfl, fun x hx => by
          rcases List.mem_cons.mp hx with z | z
          · subst z; exact a2
          · exact a x z, by
          intro x hx
          rcases List.mem_cons.mp hx with z | z
          · subst z; exact b2
          · exact b x z⟩
    obtain ⟨n, e, a, b⟩ := key ds h3
    have el : ds.length = n.length := by rw [e, List.length_map]
    exact ⟨n, by rw [e]; rfl, ⟨by omega, by omega, a, fun l hl k hk => by have := b l hl k hk; omega⟩⟩
  · cases h
/-! ### going from lamp to lamp -/
def orb (n : Net) (l : Nat) : Nat → Option Nat
  | 0 => some l
  | k + 1 => (orb n l k).bind (nxt n)
/-- the beats up to the k-th lamp of the way -/
def tim (n : Net) (l : Nat) : Nat → Int
  | 0 => 0
  | k + 1 => tim n l k + (match orb n l k with
    | some x => len n x
    | none => 0)
section
variable {n : Net} {l : Nat}
@[simp] theorem orb_0 : orb n l 0 = some l := rfl
theorem orb_s {k : Nat} : orb n l (k + 1) = (orb n l k).bind (nxt n) := rfl
theorem orb_lt (h : NetOk n) (hl : l < n.length) : ∀ {k x : Nat}, orb n l k = some x → x < n.length
  | 0, x, e => by
    cases e
    exact hl
  | k + 1, x, e => by
    obtain ⟨y, _, e2⟩ := Option.bind_eq_some_iff.mp e
    exact h.nxt e2
theorem orb_none : ∀ {k : Nat} (j : Nat), orb n l k = none → orb n l (k + j) = none
  | k, 0, h => h
  | k, j + 1, h => by
    show orb n l ((k + j) + 1) = none
    rw [orb_s, orb_none j h]
    rfl
theorem orb_le {k j : Nat} {x : Nat} (h : orb n l k = some x) (hj : j ≤ k) : ∃ y, orb n l j = some y := by
  cases e : orb n l j with
  | some y => exact ⟨y, rfl⟩
  | none =>
    have := orb_none (k - j) e
    rw [Nat.add_sub_cancel' hj, h] at this
    cases this
theorem orb_add (a : Nat) : ∀ b : Nat, orb n l (a + b) = (orb n l a).bind fun x => orb n x b
  | 0 => by
    cases e : orb n l a <;> simp [e]
  | b + 1 => by
    show (orb n l (a + b)).bind (nxt n) = _
    rw [orb_add a b]
    cases e : orb n l a <;> simp [orb_s]
theorem tim_s {k x : Nat} (h : orb n l k = some x) : tim n l (k + 1) = tim n l k + len n x := by
  simp only [tim, h]
theorem tim_le (h : NetOk n) {j k : Nat} (hk : j ≤ k) : tim n l j ≤ tim n l k := by
  obtain ⟨d, rfl⟩ := Nat.exists_eq_add_of_le hk
  clear hk
  induction d with
  | zero => exact Int.le_refl _
  | succ d ih =>
    have e : tim n l (j + (d + 1)) = tim n l (j + d) + (match orb n l (j + d) with | some x => len n x | none => 0) := rfl
    rw [e]
    have : 0 ≤ (match orb n l (j + d) with | some x => len n x | none => 0) := by
      cases orb n l (j + d) with
      | none => simp
      | some x =>
        have := h.len x
        simp only
        omega
    omega
theorem tim_nn (h : NetOk n) (k : Nat) : 0 ≤ tim n l k := tim_le (j := 0) h (Nat.zero_le _)
theorem tim_add (a : Nat) {x : Nat} (e : orb n l a = some x) : ∀ b : Nat, tim n l (a + b) = tim n l a + tim n x b
  | 0 => by simp [tim]
  | b + 1 => by
    have e3 : tim n l (a + (b + 1)) = tim n l (a + b) + (match orb n l (a + b) with | some x => len n x | none => 0) := rfl
    rw [e3, tim_add a e b, orb_add, e]
    simp only [Option.bind_some, tim]
    omega
theorem tim_lt (h : NetOk n) {j k x : Nat} (e : orb n l j = some x) (hk : j < k) : tim n l j + len n x ≤ tim n l k := by
  have h1 := tim_s e
  have h2 : tim n l (j + 1) ≤ tim n l k := tim_le h hk
  omega
theorem tim_ge (h : NetOk n) : ∀ {k x : Nat}, orb n l k = some x → (k : Int) ≤ tim n l k
  | 0, _, _ => by simp [tim]
  | k + 1, x, e => by
    obtain ⟨y, ey⟩ := orb_le e (Nat.le_succ k)
    have := tim_ge h ey
    have h1 := h.len y
    rw [tim_s ey]
    omega
/-- the flame kindled at l burns at x, b beats behind, since r beats -/
def Burn (n : Net) (l : Nat) (b : Int) (x : Nat) (r : Int) : Prop := ∃ i, orb n l i = some x ∧ tim n l i + r = b ∧ 0 ≤ r ∧ r < len n x
theorem Burn.inj {b : Int} {x y : Nat} {r s : Int} (h : NetOk n) (p : Burn n l b x r) (q : Burn n l b y s) : x = y ∧ r = s := by
  obtain ⟨i, e1, e2, e3, e4⟩ := p
  obtain ⟨j, f1, f2, f3, f4⟩ := q
  have hij : i = j := by
    rcases Nat.lt_trichotomy i j with z | z | z
    · have := tim_lt h e1 z
      omega
    · exact z
    · have := tim_lt h f1 z
      omega
  subst hij
  rw [e1] at f1
  cases f1
  exact ⟨rfl, by omega⟩
/-! ### the way: what is come by once, what again -/
structure Way (n : Net) (l : Nat) (ahead ring : List Nat) : Prop where
  nd : (ahead ++ ring).Nodup
  at_ : ∀ i, i < (ahead ++ ring).length → orb n l i = (ahead ++ ring)[i]?
  en : orb n l (ahead ++ ring).length = ring.head?
  lt : ∀ x ∈ ahead ++ ring, x < n.length
  ne : ahead ++ ring ≠ []
end
/-- the lengths together -/
def lens (n : Net) (xs : List Nat) : Int := (xs.map (len n)).sum
section
variable {n : Net} {l : Nat}
theorem lens_cons {x : Nat} {xs : List Nat} : lens n (x :: xs) = len n x + lens n xs := by simp [lens]
theorem lens_app {xs ys : List Nat} : lens n (xs ++ ys) = lens n xs + lens n ys := by simp [lens]
theorem lens_nn (h : NetOk n) : ∀ xs : List Nat, 0 ≤ lens n xs
  | [] => by simp [lens]
  | x :: xs => by
    have h1 := h.len x
    have := lens_nn h xs
    rw [lens_cons]
    omega
theorem lens_pos (h : NetOk n) {xs : List Nat} (hx : xs ≠ []) : 1 ≤ lens n xs := by
  cases xs with
  | nil => exact absurd rfl hx
  | cons x xs =>
    have h1 := h.len x
    have := lens_nn h xs
    rw [lens_cons]
    omega
theorem tim_lens {w : List Nat} (h : ∀ i, i < w.length → orb n l i = w[i]?) : ∀ k, k ≤ w.length → tim n l k = lens n (w.take k)
  | 0, _ => by simp [tim, lens]
  | k + 1, hk => by
    have e := h k (by omega)
    rw [List.getElem?_eq_getElem (by omega)] at e
    rw [tim_s e, tim_lens h k (by omega), List.take_succ, List.getElem?_eq_getElem (by omega), lens_app]
    simp [lens]
/-- spot_in, by data: in which lamp of the list so many beats are over -/
def spot (n : Net) : List Nat → Int → Option (Nat × Int)
  | [], _ => none
  | x :: xs, b => if b < len n x then some (x, b) else spot n xs (b - len n x)
theorem spot_some (h : NetOk n) : ∀ {xs : List Nat} {b : Int} {x : Nat} {r : Int}, 0 ≤ b → spot n xs b = some (x, r) → ∃ i, xs[i]? = some x ∧ lens n (xs.take i) + r = b ∧ 0 ≤ r ∧ r < len n x
  | [], _, _, _, _, e => by cases e
  | y :: ys, b, x, r, hb, e => by
    unfold spot at e
    split at e
    · cases e
      exact ⟨0, rfl, by simp [lens], hb, by assumption⟩
    · obtain ⟨i, h1, h2, h3, h4⟩ := spot_some h (by omega) e
      exact ⟨i + 1, by simpa using h1, by rw [List.take_succ_cons, lens_cons]; omega, h3, h4⟩
theorem spot_none (h : NetOk n) : ∀ {xs : List Nat} {b : Int}, spot n xs b = none → lens n xs ≤ b ∨ (xs = [])
  | [], _, _ => .inr rfl
  | y :: ys, b, e => by
    unfold spot at e
    split at e
    · cases e
    · left
      rw [lens_cons]
      rcases spot_none h e with z | z
      · omega
      · subst z
        simp only [lens, List.map_nil, List.sum_nil]
        omega
theorem spot_lt (h : NetOk n) : ∀ {xs : List Nat} {b : Int}, b < lens n xs → 0 ≤ b → ∃ p, spot n xs b = some p
  | [], b, h1, h2 => by simp [lens] at h1; omega
  | y :: ys, b, h1, h2 => by
    unfold spot
    split
    · exact ⟨_, rfl⟩
    · rw [lens_cons] at h1
      exact spot_lt h (by omega) (by omega)
end
theorem map_nD_any {w : List Nat} {x : Nat} : ((w.map nD).any fun z => D.eq z (.int (x : Nat))) = decide (x ∈ w) := by
  induction w with
  | nil => simp
  | cons y w ih =>
    simp only [List.map_cons, List.any_cons, ih, nD, eq_ii, List.mem_cons, Bool.decide_or]
    congr 1
    by_cases h : x = y
    · simp [h]
    · have : ¬ ((y : Int) = (x : Int)) := by omega
      simp [h, this]
theorem PlN_nat {w : List Nat} {k : Nat} : ∀ e ∈ w.map nD, PlN k e := by
  simp only [List.mem_map, forall_exists_index, and_imp]
  rintro _ x _ rfl
  simp [nD]
theorem idx_nD {w : List Nat} {x : Nat} (h : x ∈ w) : D.idx (.int (x : Nat)) (w.map nD) = some (w.idxOf x) := by
  induction w with
  | nil => simp at h
  | cons y w ih =>
    simp only [List.map_cons, D.idx, nD, eq_ii]
    by_cases e : y = x
    · subst e
      simp
    · have : ¬ ((y : Int) = (x : Int)) := by omega
      have h2 : x ∈ w := by
        rcases List.mem_cons.mp h with z | z
        · exact absurd z.symm e
        · exact z
      have e' : (y == x) = false := by simpa using e
      rw [ih h2, List.idxOf_cons, e']
      simp [this]
theorem nodup_le : ∀ {m : Nat} {w : List Nat}, w.Nodup → (∀ x ∈ w, x < m) → w.length ≤ m
  | 0, [], _, _ => Nat.le_refl _
  | 0, x :: w, _, h => absurd (h x List.mem_cons_self) (Nat.not_lt_zero _)
  | m + 1, w, nd, h => by
    by_cases hm : m ∈ w
    · have h1 := nodup_le (m := m) (w := w.erase m) (nd.erase m) fun x hx => by
        have h2 := h x (List.mem_of_mem_erase hx)
        have h3 : x ≠ m := fun z => (List.Nodup.mem_erase_iff nd).mp (z ▸ hx) |>.1 rfl
        omega
      rw [List.length_erase_of_mem hm] at h1
      omega
    · have := nodup_le (m := m) (w := w) nd fun x hx => by
        have h2 := h x hx
        have h3 : x ≠ m := fun z => hm (z ▸ hx)
        omega
      omega
@[simp] theorem dNotIn_nD {w : List Nat} {f : Nat} : dNotIn (.int (f : Nat)) (.lst (w.map nD)) = .ok (.bl (!decide (f ∈ w))) := by
  rw [dNotIn_pl (by simp) (show PlN 64 (.lst (w.map nD)) from PlN_nat), map_nD_any]
@[simp] theorem dIn_nD {w : List Nat} {f : Nat} : dIn (.int (f : Nat)) (.lst (w.map nD)) = .ok (.bl (decide (f ∈ w))) := by
  rw [dIn_pl (by simp) (show PlN 64 (.lst (w.map nD)) from PlN_nat), map_nD_any]
theorem dIdx_nD {w : List Nat} {f : Nat} (h : f ∈ w) : dIdx (.lst (w.map nD)) (.int (f : Nat)) = .ok (.int (w.idxOf f : Nat)) := dIdx_pl (by simp) (show PlN 64 (.lst (w.map nD)) from PlN_nat) (idx_nD h)
/-! round and round -/
theorem spot_cons {n : Net} {x : Nat} {xs : List Nat} {b : Int} : spot n (x :: xs) b = if b < len n x then some (x, b) else spot n xs (b - len n x) := rfl
section
variable {n : Net} {l : Nat} {ahead ring : List Nat}
theorem Way.tim (w : Way n l ahead ring) {k : Nat} (h : k ≤ (ahead ++ ring).length) : EB.tim n l k = lens n ((ahead ++ ring).take k) := tim_lens w.at_ k h
theorem Way.timA (w : Way n l ahead ring) {k : Nat} (h : k ≤ ahead.length) : EB.tim n l k = lens n (ahead.take k) := by
  rw [w.tim (by rw [List.length_append]; omega), List.take_append_of_le_length h]
theorem Way.atA (w : Way n l ahead ring) {k : Nat} (h : k < ahead.length) : orb n l k = ahead[k]? := by
  rw [w.at_ k (by rw [List.length_append]; omega), List.getElem?_append_left h]
theorem Way.head (w : Way n l ahead ring) {x : Nat} (h : ring.head? = some x) : orb n l ahead.length = some x := by
  cases ring with
  | nil => simp at h
  | cons y r =>
    rw [w.at_ ahead.length (by simp), List.getElem?_append_right (Nat.le_refl _), Nat.sub_self]
    simpa using h
theorem Way.in_ring (w : Way n l ahead ring) {x : Nat} (h : ring.head? = some x) : (∀ j, j < ring.length → orb n x j = ring[j]?) ∧ orb n x ring.length = some x ∧ ∀ j, j ≤ ring.length → EB.tim n x j = lens n (ring.take j) := by
  have hx := w.head h
  have h1 : ∀ j, j < ring.length → orb n x j = ring[j]? := fun j hj => by
    have := w.at_ (ahead.length + j) (by rw [List.length_append]; omega)
    rw [orb_add, hx, List.getElem?_append_right (by omega), Nat.add_sub_cancel_left] at this
    exact this
  refine ⟨h1, ?_, tim_lens h1⟩
  have := w.en
  rw [List.length_append, orb_add, hx, h] at this
  exact this
theorem Way.rounds (w : Way n l ahead ring) {x : Nat} (h : ring.head? = some x) : ∀ q : Nat, orb n x (ring.length * q) = some x ∧ EB.tim n x (ring.length * q) = lens n ring * q
  | 0 => ⟨rfl, by simp [EB.tim]⟩
  | q + 1 => by
    obtain ⟨h1, h2, h3⟩ := w.in_ring h
    obtain ⟨i1, i2⟩ := w.rounds h q
    rw [Nat.mul_succ]
    refine ⟨by rw [orb_add, i1]; exact h2, ?_⟩
    rw [tim_add _ i1, i2, h3 _ (Nat.le_refl _), List.take_length]
    have : ((q + 1 : Nat) : Int) = (q : Int) + 1 := by omega
    rw [this, Int.mul_add, Int.mul_one]
theorem Way.ring_at (w : Way n l ahead ring) {j : Nat} (hj : j < ring.length) (q : Nat) :
    orb n l (ahead.length + (ring.length * q + j)) = ring[j]? ∧ EB.tim n l (ahead.length + (ring.length * q + j)) = lens n ahead + (lens n ring * q + lens n (ring.take j)) := by
  cases e : ring.head? with
  | none =>
    cases ring with
    | nil => simp at hj
    | cons _ _ => simp at e
  | some x =>
    obtain ⟨h1, h2, h3⟩ := w.in_ring e
    obtain ⟨i1, i2⟩ := w.rounds e q
    have hx := w.head e
    rw [orb_add, hx, tim_add _ hx]
    simp only [Option.bind_some]
    rw [orb_add, i1, tim_add _ i1, i2, h3 j (by omega), w.timA (Nat.le_refl _), List.take_length]
    exact ⟨h1 j hj, rfl⟩
/-- where one is alone: the way and the lap tell it -/
def alone (n : Net) (ahead ring : List Nat) (b : Int) : Option (Nat × Int) := match spot n ahead b with
  | some p => some p
  | none => if ring = [] then none else spot n ring ((b - lens n ahead) % lens n ring)
theorem alone_burn (h : NetOk n) (w : Way n l ahead ring) {b : Int} (hb : 0 ≤ b) : match alone n ahead ring b with
    | some (x, r) => Burn n l b x r
    | none => ∀ x r, ¬ Burn n l b x r := by
  unfold alone
  cases e : spot n ahead b with
  | some p =>
    obtain ⟨x, r⟩ := p
    obtain ⟨i, h1, h2, h3, h4⟩ := spot_some h hb e
    have hi := (List.getElem?_eq_some_iff.mp h1).1
    exact ⟨i, by rw [w.atA hi]; exact h1, by rw [w.timA (by omega)]; exact h2, h3, h4⟩
  | none =>
    have hA : lens n ahead ≤ b := by
      rcases spot_none h e with z | z
      · exact z
      · rw [z]
        simpa [lens] using hb
    simp only
    by_cases hr : ring = []
    · rw [if_pos hr]
      subst hr
      rintro x r ⟨i, h1, h2, h3, h4⟩
      have hi : i < ahead.length := by
        by_cases z : i < ahead.length
        · exact z
        · have en := w.en
          rw [List.append_nil] at en
          have := orb_none (i - ahead.length) (en.trans rfl)
          rw [show ahead.length + (i - ahead.length) = i by omega, h1] at this
          cases this
      have t := tim_lt h h1 hi
      rw [w.timA (Nat.le_refl _), List.take_length] at t
      omega
    · rw [if_neg hr]
      have hL := lens_pos h hr
      have m0 := Int.emod_nonneg (b - lens n ahead) (show lens n ring ≠ 0 by omega)
      have m1 := Int.emod_lt_of_pos (b - lens n ahead) (show 0 < lens n ring by omega)
      obtain ⟨⟨y, s⟩, es⟩ := spot_lt h m1 m0
      rw [es]
      obtain ⟨j, h1, h2, h3, h4⟩ := spot_some h m0 es
      have hj := (List.getElem?_eq_some_iff.mp h1).1
      have q0 : 0 ≤ (b - lens n ahead) / lens n ring := Int.ediv_nonneg (by omega) (by omega)
      obtain ⟨o, t⟩ := w.ring_at hj ((b - lens n ahead) / lens n ring).toNat
      refine ⟨_, o.trans h1, ?_, h3, h4⟩
      rw [t, Int.toNat_of_nonneg q0]
      have := Int.mul_ediv_add_emod (b - lens n ahead) (lens n ring)
      omega
end
theorem NoB_nD {w : List Nat} {k : Nat} : ∀ e ∈ w.map nD, NoB k e := by
  simp only [List.mem_map, forall_exists_index, and_imp]
  rintro _ x _ rfl
  cases k <;> simp [nD, NoB]
theorem nD_inj {w v : List Nat} : w.map nD = v.map nD ↔ w = v := by
  refine ⟨fun h => ?_, fun h => by rw [h]⟩
  exact (List.map_inj_right fun x y e => by unfold nD at e; cases e; rfl).mp h
theorem dEq_nD {w v : List Nat} : dEq (.tup (w.map nD)) (.tup (v.map nD)) = .ok (.bl (decide (w = v))) := by
  rw [dEq_pl (show PlN 64 (.tup (w.map nD)) from PlN_nat) (show PlN 64 (.tup (v.map nD)) from PlN_nat)]
  congr 2
  have := NoB.iff (n := 1) (x := .tup (w.map nD)) (y := .tup (v.map nD)) NoB_nD NoB_nD
  simp only [D.tup.injEq, nD_inj] at this
  rw [Bool.eq_iff_iff, this]
  simp
@[simp] theorem dEq_nD0 {w : List Nat} : dEq (.tup (w.map nD)) (.tup []) = .ok (.bl (decide (w = []))) := dEq_nD (v := [])
/-! ### jars -/
/-- a jar, of at most C stirs -/
def JarD (C : Nat) (d : D) : Prop := ∃ a b c : Int, d = .lst [.int a, .int b, .int c] ∧ 0 ≤ a ∧ 0 ≤ b ∧ b < 2 ^ 400 ∧ 0 ≤ c ∧ c ≤ C
theorem JarD.le {C C' : Nat} {d : D} (h : JarD C d) (k : C ≤ C') : JarD C' d := by
  obtain ⟨a, b, c, e, h1, h2, h3, h4, h5⟩ := h
  exact ⟨a, b, c, e, h1, h2, h3, h4, by omega⟩
theorem bits_le {a : Int} {k : Nat} (h1 : -(2 ^ k) < a) (h2 : a < 2 ^ k) : Builtin.Int.intBits a ≤ k := by
  apply PyProof.Rows.intBits_le
  have : ((2 ^ k : Nat) : Int) = (2 : Int) ^ k := by norm_cast
  omega
theorem log_lt {a : Int} {k : Nat} (h1 : 0 < a) (h2 : a < 2 ^ k) : a.natAbs.log2 < k := by
  rw [Nat.log2_lt (by omega)]
  have : ((2 ^ k : Nat) : Int) = (2 : Int) ^ k := by norm_cast
  omega
theorem cube_lt {x K : Int} (h0 : 0 ≤ x) (h1 : x < K) : 0 ≤ x ^ 3 ∧ x ^ 3 < K ^ 3 := by
  obtain ⟨n, rfl⟩ := Int.eq_ofNat_of_zero_le h0
  obtain ⟨m, rfl⟩ := Int.eq_ofNat_of_zero_le (show 0 ≤ K by omega)
  have := Nat.pow_lt_pow_left (show n < m by omega) (show 3 ≠ 0 by decide)
  exact ⟨Int.pow_nonneg h0, by exact_mod_cast this⟩
@[simp] theorem ixN_0 {n : Nat} : ixN (n + 1) 0 = some 0 := ixN_nat (k := 0) (by omega)
@[simp] theorem ixN_1 {n : Nat} : ixN (n + 2) 1 = some 1 := ixN_nat (k := 1) (by omega)
@[simp] theorem ixN_2 {n : Nat} : ixN (n + 3) 2 = some 2 := ixN_nat (k := 2) (by omega)
@[simp] theorem bits10 : Builtin.Int.intBits 10 = 4 := by decide +kernel
theorem dAdd_l {xs ys : List D} {P : D → Prop} : wR (dAdd (.lst xs) (.lst ys)) P = (xs.length + ys.length ≤ 16777216 ∧ P (.lst (xs ++ ys))) := by
  unfold dAdd
  by_cases h : xs.length + ys.length ≤ 16777216 <;> simp [h, stuck]
theorem dIx_in {d : D} {ds : List D} {i : Int} (hd : d.seq = some ds) (h0 : 0 ≤ i) (h1 : i < ds.length) : ∃ x ∈ ds, dIx d (.int i) = .ok x := by
  obtain ⟨k, rfl⟩ := Int.eq_ofNat_of_zero_le h0
  have hk : k < ds.length := by omega
  exact ⟨ds[k], List.getElem_mem hk, dIx_nat hd (List.getElem?_eq_getElem hk)⟩
theorem PlN_ints {ns : List Int} {k : Nat} : ∀ e ∈ ns.map D.int, PlN k e := by
  simp only [List.mem_map, forall_exists_index, and_imp]
  rintro _ x _ rfl
  simp
theorem NoB_ints {w : List Int} {k : Nat} : ∀ e ∈ w.map D.int, NoB k e := by
  simp only [List.mem_map, forall_exists_index, and_imp]
  rintro _ x _ rfl
  cases k <;> simp [NoB]
theorem ints_inj {w v : List Int} : w.map D.int = v.map D.int ↔ w = v := by
  refine ⟨fun h => ?_, fun h => by rw [h]⟩
  exact (List.map_inj_right fun x y e => by cases e; rfl).mp h
theorem dEq_ints {w v : List Int} : dEq (.lst (w.map D.int)) (.lst (v.map D.int)) = .ok (.bl (decide (w = v))) := by
  rw [dEq_pl (show PlN 64 (.lst (w.map D.int)) from PlN_ints) (show PlN 64 (.lst (v.map D.int)) from PlN_ints)]
  congr 2
  have := NoB.iff (n := 1) (x := .lst (w.map D.int)) (y := .lst (v.map D.int)) NoB_ints NoB_ints
  simp only [D.lst.injEq, ints_inj] at this
  rw [Bool.eq_iff_iff, this]
  simp
@[simp] theorem dEq_ints0 {w : List Int} : dEq (.lst (w.map D.int)) (.lst []) = .ok (.bl (decide (w = []))) := dEq_ints (v := [])
/-- fit to be drawn from -/
def Sm (many : Int) : Prop := 0 < many ∧ many.natAbs.log2 < 9000
theorem Sm.pos {m : Int} (h : Sm m) : 0 < m := h.1
theorem Sm.of {m : Int} (h0 : 0 < m) (h1 : m < 10 ^ 70) : Sm m := ⟨h0, Nat.lt_of_lt_of_le (log_lt (k := 240) h0 (by omega)) (by decide)⟩
@[simp] theorem isiA_lt_i {i : Int} : dIsiA [.list, .tuple] (.int i) = .ok (.bl false) := rfl
@[simp] theorem isiA_lt_b {i : Bool} : dIsiA [.list, .tuple] (.bl i) = .ok (.bl false) := rfl
@[simp] theorem isiA_lt_n : dIsiA [.list, .tuple] .non = .ok (.bl false) := rfl
@[simp] theorem isiA_lt_s {x : Str} : dIsiA [.list, .tuple] (.str x) = .ok (.bl false) := rfl
@[simp] theorem isiA_lt_t {x : List D} : dIsiA [.list, .tuple] (.tup x) = .ok (.bl true) := rfl
@[simp] theorem isiA_lt_l {x : List D} : dIsiA [.list, .tuple] (.lst x) = .ok (.bl true) := rfl
@[simp] theorem isN_str {i : Str} : D.isN (.str i) = false := rfl
theorem bls_rep : ∀ n : Nat, D.bls (List.replicate n (.bl true)) = some (List.replicate n true)
  | 0 => rfl
  | n + 1 => by simp [List.replicate_succ, D.bls, bls_rep n]
@[simp] theorem dAll_rep {n : Nat} : dAll [.lst (List.replicate n (.bl true))] = .ok (.bl true) := by
  unfold dAll
  simp only [bls_rep]
  simp
/-- plain data, at most n deep, no long lists -/
def SmN : Nat → D → Prop
  | 0, d => PlN 0 d
  | n + 1, d => match d with
    | .tup ds => ds.length ≤ 1000000 ∧ ∀ e ∈ ds, SmN n e
    | .lst ds => ds.length ≤ 1000000 ∧ ∀ e ∈ ds, SmN n e
    | d => PlN 0 d
@[simp] theorem SmN_non {n : Nat} : SmN n .non = True := by cases n <;> rfl
@[simp] theorem SmN_bl {n : Nat} {b : Bool} : SmN n (.bl b) = True := by cases n <;> rfl
@[simp] theorem SmN_int {n : Nat} {b : Int} : SmN n (.int b) = True := by cases n <;> rfl
@[simp] theorem SmN_tup {n : Nat} {ds : List D} : SmN (n + 1) (.tup ds) = (ds.length ≤ 1000000 ∧ ∀ e ∈ ds, SmN n e) := rfl
@[simp] theorem SmN_lst {n : Nat} {ds : List D} : SmN (n + 1) (.lst ds) = (ds.length ≤ 1000000 ∧ ∀ e ∈ ds, SmN n e) := rfl
theorem SmN.pl : ∀ {n : Nat} {d : D}, SmN n d → PlN n d
  | 0, d, h => h
  | n + 1, d, h => by
    cases d with
    | tup ds => exact fun e he => SmN.pl (h.2 e he)
    | lst ds => exact fun e he => SmN.pl (h.2 e he)
    | _ => simp_all [PlN, SmN]
def kD (b : Int) (l : Nat) : D := .tup [.int b, .int (l : Nat)]
def spotD : Option (Nat × Int) → D
  | none => .non
  | some (x, r) => .tup [.int (x : Nat), .int r]
theorem dAdd_t {xs ys : List D} {P : D → Prop} : wR (dAdd (.tup xs) (.tup ys)) P = (xs.length + ys.length ≤ 16777216 ∧ P (.tup (xs ++ ys))) := by
  unfold dAdd
  by_cases h : xs.length + ys.length ≤ 16777216 <;> simp [h, stuck]
@[simp] theorem dNe_ii {a b c d : Int} : dNe (.tup [.int a, .int b]) (.tup [.int c, .int d]) = .ok (.bl (!(decide (a = c) && decide (b = d)))) := by
  rw [dNe_pl (show PlN 64 (.tup [.int a, .int b]) by simp) (show PlN 64 (.tup [.int c, .int d]) by simp)]
  simp
@[simp] theorem dEq_iit {a b c d : Int} : dEq (.tup [.int a, .int b]) (.tup [.int c, .int d]) = .ok (.bl (decide (a = c) && decide (b = d))) := by
  rw [dEq_pl (show PlN 64 (.tup [.int a, .int b]) by simp) (show PlN 64 (.tup [.int c, .int d]) by simp)]
  simp
theorem nodup_inj : ∀ {l : List Nat} {i j x : Nat}, l.Nodup → l[i]? = some x → l[j]? = some x → i = j
  | [], _, _, _, _, h, _ => by simp at h
  | y :: l, 0, 0, _, _, _, _ => rfl
  | y :: l, 0, j + 1, x, nd, h1, h2 => by
    simp at h1 h2
    subst h1
    exact absurd (List.mem_of_getElem? h2) (List.nodup_cons.mp nd).1
  | y :: l, i + 1, 0, x, nd, h1, h2 => by
    simp at h1 h2
    subst h2
    exact absurd (List.mem_of_getElem? h1) (List.nodup_cons.mp nd).1
  | y :: l, i + 1, j + 1, x, nd, h1, h2 => by
    simp at h1 h2
    rw [nodup_inj (List.nodup_cons.mp nd).2 h1 h2]
section
variable {n : Net} {l : Nat} {a r a' r' : List Nat}
theorem Way.le (w : Way n l a r) (w' : Way n l a' r') : (a' ++ r').length ≤ (a ++ r).length := by
  by_cases h : (a ++ r).length < (a' ++ r').length
  · exfalso
    have e1 := w.en
    have e2 := w'.at_ _ h
    rw [e1] at e2
    cases r with
    | nil =>
      rw [List.getElem?_eq_getElem h] at e2
      simp at e2
    | cons y ys =>
      have ha : a.length < (a ++ y :: ys).length := by simp
      have h3 := w.at_ a.length ha
      have h4 := w'.at_ a.length (by omega)
      rw [h3, List.getElem?_append_right (Nat.le_refl _), Nat.sub_self] at h4
      simp only [List.head?_cons, List.getElem?_cons_zero] at e2 h4
      have := nodup_inj w'.nd h4.symm e2.symm
      omega
  · omega
theorem Way.unique (w : Way n l a r) (w' : Way n l a' r') : a = a' ∧ r = r' := by
  have hl : (a ++ r).length = (a' ++ r').length := Nat.le_antisymm (w'.le w) (w.le w')
  have e : a ++ r = a' ++ r' := by
    refine List.ext_getElem? fun i => ?_
    by_cases h : i < (a ++ r).length
    · rw [← w.at_ i h, ← w'.at_ i (by omega)]
    · rw [List.getElem?_eq_none (by omega), List.getElem?_eq_none (by omega)]
  have h : r.head? = r'.head? := by rw [← w.en, ← w'.en, hl]
  have la : a.length = a'.length := by
    cases r with
    | nil =>
      cases r' with
      | nil => simpa using hl
      | cons _ _ => simp at h
    | cons y ys =>
      cases r' with
      | nil => simp at h
      | cons z zs =>
        simp only [List.head?_cons, Option.some.injEq] at h
        subst h
        have h1 : (a ++ y :: ys)[a.length]? = some y := by simp
        have h2 : (a ++ y :: ys)[a'.length]? = some y := by rw [e]; simp
        exact nodup_inj w.nd h1 h2
  exact List.append_inj e la
/-- the place in the way, of a lamp of the ring -/
theorem Way.idx_ring (w : Way n l a r) {x : Nat} (h : x ∈ r) : x ∉ a ∧ (a ++ r).idxOf x = a.length + r.idxOf x := by
  have hn : x ∉ a := fun z => (List.nodup_append.mp w.nd).2.2 x z x h rfl
  exact ⟨hn, by rw [List.idxOf_append, if_neg hn, Nat.add_comm]⟩
theorem Way.idx_ahead (w : Way n l a r) {x : Nat} (h : x ∈ a) : x ∉ r ∧ (a ++ r).idxOf x = a.idxOf x ∧ (a ++ r).idxOf x < a.length := by
  have hn : x ∉ r := fun z => (List.nodup_append.mp w.nd).2.2 x h x z rfl
  have e : (a ++ r).idxOf x = a.idxOf x := by rw [List.idxOf_append, if_pos h]
  exact ⟨hn, e, by rw [e]; exact List.idxOf_lt_length_of_mem h⟩
/-- where it is first lit -/
theorem Way.lit (w : Way n l a r) {x : Nat} (h : x ∈ a ++ r) : orb n l ((a ++ r).idxOf x) = some x ∧ EB.tim n l ((a ++ r).idxOf x) = lens n ((a ++ r).take ((a ++ r).idxOf x)) := by
  have hi := List.idxOf_lt_length_of_mem h
  refine ⟨?_, w.tim (Nat.le_of_lt hi)⟩
  rw [w.at_ _ hi, List.getElem?_eq_getElem hi, List.getElem_idxOf]
/-- and a lap behind -/
theorem Way.lit2 (w : Way n l a r) {x : Nat} (h : x ∈ r) : ∃ i, orb n l i = some x ∧ EB.tim n l i = lens n ((a ++ r).take ((a ++ r).idxOf x)) + lens n r := by
  have hi := List.idxOf_lt_length_of_mem h
  obtain ⟨o, t⟩ := w.ring_at hi 1
  refine ⟨_, o.trans ?_, ?_⟩
  · rw [List.getElem?_eq_getElem hi, List.getElem_idxOf]
  · rw [t, (w.idx_ring h).2, List.take_append, List.take_of_length_le (show a.length ≤ a.length + r.idxOf x by omega), Nat.add_sub_cancel_left, lens_app]
    omega
theorem alone_is (hn : NetOk n) (w : Way n l a r) {x i : Nat} {s b : Int} (e : orb n l i = some x) (t : EB.tim n l i + s = b) (s0 : 0 ≤ s) (s1 : s < len n x) : alone n a r b = some (x, s) := by
  have := tim_nn (l := l) hn i
  have ab := alone_burn hn w (b := b) (by omega)
  have bu : Burn n l b x s := ⟨i, e, t, s0, s1⟩
  cases ea : alone n a r b with
  | none =>
    rw [ea] at ab
    exact absurd bu (ab x s)
  | some p =>
    obtain ⟨y, u⟩ := p
    rw [ea] at ab
    obtain ⟨rfl, rfl⟩ := Burn.inj hn ab bu
    rfl
end
theorem dAdd_tn {a r : List Nat} (h : a.length + r.length ≤ 16777216) : dAdd (.tup (a.map nD)) (.tup (r.map nD)) = .ok (.tup ((a ++ r).map nD)) := by
  unfold dAdd
  simp [h]
theorem Way.len12 {n : Net} {l : Nat} {a r : List Nat} (h : NetOk n) (w : Way n l a r) : a.length + r.length ≤ 12 := by
  have := Nat.le_trans (nodup_le w.nd w.lt) h.hi
  rwa [List.length_append] at this
/-- [net[k][0] for k in xs] -/
theorem comp_len {n : Net} {xs : List Nat} {i : Nat} {rho : List D} {P : D → List D → Prop} (hx : ∀ x ∈ xs, x < n.length) (hl : xs.length ≤ 16777216) (hi : i < rho.length) (h0 : i ≠ 0) (hr : rho[0]? = some (netD n))
    (e' : ∀ v d, d = .lst (xs.map fun x => D.int (len n x)) → dSum [d] = .ok (.int (lens n xs)) → P d (rho.set i v)) : wE (cloop (tName i) fYes (fOp2 dIx Sh.s Sh.s (fOp2 dIx Sh.s Sh.s (fVar 0) (fVar i)) (fC (.int 0))) (xs.map nD) [] rho) P := by
  refine comp_map (F := fun d => match d with | .int i => .int (len n i.toNat) | _ => .non) hi (by simpa using hl) (fun d hd y => ?_) (fun y => ?_)
  · obtain ⟨x, h1, rfl⟩ := List.mem_map.mp hd
    have e0 : ((rho.set i y).set i (nD x)).getD 0 .non = netD n := by
      rw [List.set_set, List.getD_eq_getElem?_getD, List.getElem?_set_ne h0, hr]
      rfl
    have e1 : ((rho.set i y).set i (nD x)).getD i .non = nD x := by
      rw [List.set_set, List.getD_eq_getElem?_getD, List.getElem?_set_self hi]
      rfl
    simp only [w_op2, w_var, w_c, e0, e1, res_s]
    simp [nD, dIx_net (hx x h1)]
  · rw [List.map_map]
    have e : ((fun d => match d with | D.int i => D.int (len n i.toNat) | _ => .non) ∘ nD) = fun x => D.int (len n x) := by
      funext x
      simp [nD]
    rw [e]
    exact e' y _ rfl (by rw [dSum_map]; rfl)
/-- the beats from the kindling on till it is first lit -/
def lit (n : Net) (w : List Nat) (x : Nat) : Int := lens n (w.take (w.idxOf x))
theorem lit_nn {n : Net} (h : NetOk n) (w : List Nat) (x : Nat) : 0 ≤ lit n w x := lens_nn h _
section
variable {n : Net} {l : Nat} {a r : List Nat}
theorem Way.never (w : Way n l a r) (hr : r ≠ []) (i : Nat) : ∃ q j, j < r.length ∧ a.length + (r.length * q + j) = a.length + i := by
  have hp : 0 < r.length := List.length_pos_iff.mpr hr
  exact ⟨i / r.length, i % r.length, Nat.mod_lt _ hp, by rw [Nat.div_add_mod]⟩
theorem Way.any_time (w : Way n l a r) {i x : Nat} (e : orb n l i = some x) : x ∈ a ++ r ∧ ∃ q : Nat, EB.tim n l i = EB.lit n (a ++ r) x + lens n r * q := by
  by_cases hi : i < (a ++ r).length
  · have e2 := w.at_ i hi
    rw [e] at e2
    have hx : x ∈ a ++ r := List.mem_of_getElem? e2.symm
    have hj := List.idxOf_lt_length_of_mem hx
    have : i = (a ++ r).idxOf x := nodup_inj w.nd e2.symm (by rw [List.getElem?_eq_getElem hj, List.getElem_idxOf])
    refine ⟨hx, 0, ?_⟩
    rw [this, (w.lit hx).2]
    simp [EB.lit]
  · have hr : r ≠ [] := fun z => by
      subst z
      have := orb_none (i - (a ++ []).length) (w.en.trans rfl)
      rw [Nat.add_sub_cancel' (Nat.le_of_not_lt hi), e] at this
      cases this
    rw [List.length_append] at hi
    obtain ⟨q, j, hj, ej⟩ := w.never hr (i - a.length)
    have ei : i = a.length + (r.length * q + j) := by omega
    obtain ⟨o, t⟩ := w.ring_at hj q
    rw [← ei] at o t
    rw [e] at o
    have hx : x ∈ r := List.mem_of_getElem? o.symm
    have hk := List.idxOf_lt_length_of_mem hx
    have ek : j = r.idxOf x := nodup_inj (List.nodup_append.mp w.nd).2.1 o.symm (by rw [List.getElem?_eq_getElem hk, List.getElem_idxOf])
    refine ⟨List.mem_append_right _ hx, q, ?_⟩
    rw [t, EB.lit, (w.idx_ring hx).2, List.take_append, List.take_of_length_le (show a.length ≤ a.length + r.idxOf x by omega), Nat.add_sub_cancel_left, lens_app, ek]
    omega
/-- a lamp of the ring comes again just a lap behind -/
theorem Way.again (w : Way n l a r) {z : Nat} (hz : z ∈ r) : orb n z r.length = some z ∧ EB.tim n z r.length = lens n r ∧ ∀ j, 0 < j → j < r.length → orb n z j ≠ some z := by
  have hk := List.idxOf_lt_length_of_mem hz
  have ez : r[r.idxOf z]? = some z := by rw [List.getElem?_eq_getElem hk, List.getElem_idxOf]
  obtain ⟨o, t⟩ := w.ring_at hk 0
  obtain ⟨o1, t1⟩ := w.ring_at hk 1
  rw [Nat.mul_zero, Nat.zero_add] at o t
  rw [Nat.mul_one] at o1 t1
  rw [ez] at o o1
  have s1 : a.length + (r.length + r.idxOf z) = (a.length + r.idxOf z) + r.length := by omega
  rw [s1, orb_add, o] at o1
  rw [s1, tim_add _ o, t] at t1
  refine ⟨o1, by omega, fun j h0 h1 e => ?_⟩
  by_cases hj : r.idxOf z + j < r.length
  · obtain ⟨o2, _⟩ := w.ring_at hj 0
    rw [Nat.mul_zero, Nat.zero_add, show a.length + (r.idxOf z + j) = (a.length + r.idxOf z) + j by omega, orb_add, o] at o2
    have := nodup_inj (List.nodup_append.mp w.nd).2.1 ez (o2.symm.trans e)
    omega
  · obtain ⟨o2, _⟩ := w.ring_at (show r.idxOf z + j - r.length < r.length by omega) 1
    rw [Nat.mul_one, show a.length + (r.length + (r.idxOf z + j - r.length)) = (a.length + r.idxOf z) + j by omega, orb_add, o] at o2
    have := nodup_inj (List.nodup_append.mp w.nd).2.1 ez (o2.symm.trans e)
    omega
theorem Way.far (w : Way n l a r) (hr : r ≠ []) (i : Nat) : ∃ z, z ∈ r ∧ orb n l (a.length + i) = some z := by
  obtain ⟨q, j, hj, ej⟩ := w.never hr i
  obtain ⟨o, _⟩ := w.ring_at hj q
  rw [ej, List.getElem?_eq_getElem hj] at o
  exact ⟨_, List.getElem_mem hj, o⟩
variable {l' : Nat} {a' r' : List Nat}
theorem Way.no_ring (w : Way n l a r) (w' : Way n l' a' r') {i i' x : Nat} (e : orb n l i = some x) (e' : orb n l' i' = some x) (hr : r = []) : r' = [] := by
  by_cases hr' : r' = []
  · exact hr'
  · exfalso
    subst hr
    obtain ⟨z, _, oz⟩ := w'.far hr' (i' + a.length)
    rw [show a'.length + (i' + a.length) = i' + (a'.length + a.length) by omega, orb_add, e'] at oz
    have h0 := orb_none (i + a'.length) (w.en.trans rfl)
    rw [List.append_nil, show a.length + (i + a'.length) = i + (a'.length + a.length) by omega, orb_add, e] at h0
    rw [h0] at oz
    cases oz
theorem Way.lap_same (w : Way n l a r) (w' : Way n l' a' r') {i i' x : Nat} (e : orb n l i = some x) (e' : orb n l' i' = some x) : lens n r = lens n r' := by
  by_cases hr : r = []
  · rw [hr, w.no_ring w' e e' hr]
  · have hr' : r' ≠ [] := fun z => hr (w'.no_ring w e' e z)
    obtain ⟨z, hz, oz⟩ := w.far hr (i + a'.length)
    rw [show a.length + (i + a'.length) = i + (a.length + a'.length) by omega, orb_add, e] at oz
    obtain ⟨z', hz', oz'⟩ := w'.far hr' (i' + a.length)
    rw [show a'.length + (i' + a.length) = i' + (a.length + a'.length) by omega, orb_add, e'] at oz'
    have ez : z = z' := by
      rw [oz] at oz'
      cases oz'
      rfl
    subst ez
    obtain ⟨g1, g2, g3⟩ := w.again hz
    obtain ⟨k1, k2, k3⟩ := w'.again hz'
    have p := List.length_pos_iff.mpr hr
    have p' := List.length_pos_iff.mpr hr'
    have el : r.length = r'.length := by
      rcases Nat.lt_trichotomy r.length r'.length with q | q | q
      · exact absurd g1 (k3 _ p q)
      · exact q
      · exact absurd k1 (g3 _ p' q)
    rw [← g2, ← k2, el]
/-- from a lamp that both come by, the same goes for all lamps behind, but for laps -/
theorem Way.stays (w : Way n l a r) (w' : Way n l' a' r') {x y : Nat} (hx : x ∈ a ++ r) (hx' : x ∈ a' ++ r') (hy : y ∈ a ++ r) (hi : (a ++ r).idxOf x ≤ (a ++ r).idxOf y) :
    y ∈ a' ++ r' ∧ ∃ q : Int, (EB.lit n (a' ++ r') y - EB.lit n (a ++ r) y) = EB.lit n (a' ++ r') x - EB.lit n (a ++ r) x + lens n r * q := by
  obtain ⟨o1, t1⟩ := w.lit hx
  obtain ⟨o2, t2⟩ := w.lit hy
  obtain ⟨o3, t3⟩ := w'.lit hx'
  obtain ⟨k, ek⟩ := Nat.exists_eq_add_of_le hi
  rw [ek, orb_add, o1] at o2
  have t2' := t2
  rw [ek, tim_add _ o1, ← ek] at t2'
  have o4 : orb n l' ((a' ++ r').idxOf x + k) = some y := by rw [orb_add, o3]; exact o2
  obtain ⟨m, q, eq⟩ := w'.any_time o4
  rw [tim_add _ o3] at eq
  refine ⟨m, -(q : Int), ?_⟩
  rw [w.lap_same w' o1 o3]
  simp only [EB.lit] at *
  rw [t1] at t2'
  rw [t3] at eq
  rw [Int.mul_neg]
  omega
end
theorem Way.lt0 {n : Net} {l : Nat} {a r : List Nat} (w : Way n l a r) : l < n.length := by
  have hp : 0 < (a ++ r).length := List.length_pos_iff.mpr w.ne
  have := w.at_ 0 hp
  exact w.lt l (List.mem_of_getElem? this.symm)
theorem Way.idx0 {n : Net} {l : Nat} {a r : List Nat} (w : Way n l a r) : l ∈ a ++ r ∧ (a ++ r).idxOf l = 0 := by
  have hp : 0 < (a ++ r).length := List.length_pos_iff.mpr w.ne
  have e := w.at_ 0 hp
  have hm : l ∈ a ++ r := List.mem_of_getElem? e.symm
  have hj := List.idxOf_lt_length_of_mem hm
  exact ⟨hm, nodup_inj w.nd (by rw [List.getElem?_eq_getElem hj, List.getElem_idxOf]) e.symm⟩
theorem dEq_nDl {w v : List Nat} : dEq (.lst (w.map nD)) (.lst (v.map nD)) = .ok (.bl (decide (w = v))) := by
  rw [dEq_pl (show PlN 64 (.lst (w.map nD)) from PlN_nat) (show PlN 64 (.lst (v.map nD)) from PlN_nat)]
  congr 2
  have := NoB.iff (n := 1) (x := .lst (w.map nD)) (y := .lst (v.map nD)) NoB_nD NoB_nD
  simp only [D.lst.injEq, nD_inj] at this
  rw [Bool.eq_iff_iff, this]
  simp
@[simp] theorem dEq_nDl0 {w : List Nat} : dEq (.lst (w.map nD)) (.lst []) = .ok (.bl (decide (w = []))) := dEq_nDl (v := [])
/-- which lamp the two have in common first, and how many beats later the other one lights it -/
def gapD (n : Net) (b1 : Int) (w1 : List Nat) (b2 : Int) (w2 : List Nat) : D := match w1.find? fun x => decide (x ∈ w2) with
  | none => .non
  | some x => .tup [.int (x : Nat), .int (b2 + lit n w2 x - (b1 + lit n w1 x))]
theorem drop_at {w : List Nat} {k x : Nat} (h : w[k]? = some x) : w.drop k = x :: w.drop (k + 1) := by
  have hk := (List.getElem?_eq_some_iff.mp h).1
  rw [List.drop_eq_getElem_cons hk]
  rw [List.getElem?_eq_getElem hk] at h
  cases h
  rfl
@[simp] theorem dEq_l00 : dEq (.lst []) (.lst []) = .ok (.bl true) := dEq_nDl (w := []) (v := [])
@[simp] theorem dEq_lc {x : Nat} {w : List Nat} : dEq (.lst (D.int (x : Nat) :: w.map nD)) (.lst []) = .ok (.bl false) := by
  have := dEq_nDl0 (w := x :: w)
  simpa [nD] using this
@[simp] theorem dIx_kD1 {b : Int} {l : Nat} : dIx (kD b l) (.int 1) = .ok (.int (l : Nat)) := dIx_t1
@[simp] theorem dIx_kD0 {b : Int} {l : Nat} : dIx (kD b l) (.int 0) = .ok (.int b) := dIx_t0
/-- every lamp has its way -/
theorem way_ex {n : Net} (h : NetOk n) {l : Nat} (hl : l < n.length) : ∃ a r, Way n l a r := by
  have key : ∀ (m : Nat) (w : List Nat), w.length + m = 13 → w.Nodup → (∀ i, i < w.length → orb n l i = w[i]?) → (∀ x ∈ w, x < n.length) → w ≠ [] → ∃ a r, Way n l a r := by
    intro m
    induction m with
    | zero =>
      intro w hm nd _ lt _
      have := Nat.le_trans (nodup_le nd lt) h.hi
      omega
    | succ m ih =>
      intro w hm nd at_ lt ne
      cases e : orb n l w.length with
      | none => exact ⟨w, [], ⟨by simpa using nd, by simpa using at_, by simpa using e, by simpa using lt, by simpa using ne⟩⟩
      | some f =>
        by_cases hf : f ∈ w
        · have hj : w.idxOf f < w.length := List.idxOf_lt_length_of_mem hf
          refine ⟨w.take (w.idxOf f), w.drop (w.idxOf f), ⟨by rw [List.take_append_drop]; exact nd, by rw [List.take_append_drop]; exact at_, ?_, by rw [List.take_append_drop]; exact lt, by rw [List.take_append_drop]; exact ne⟩⟩
          rw [List.take_append_drop, e, List.head?_drop, List.getElem?_eq_getElem hj, List.getElem_idxOf]
        · refine ih (w ++ [f]) (by rw [List.length_append, List.length_singleton]; omega) ?_ ?_ ?_ (by simp)
          · rw [List.nodup_append]
            exact ⟨nd, by simp, fun a ha b hb => by simp at hb; subst hb; exact fun z => hf (z ▸ ha)⟩
          · intro i hi
            rw [List.length_append, List.length_singleton] at hi
            by_cases z : i < w.length
            · rw [List.getElem?_append_left z, at_ i z]
            · have : i = w.length := by omega
              subst this
              simp [e]
          · intro x hx
            rcases List.mem_append.mp hx with z | z
            · exact lt x z
            · simp at z
              subst z
              exact orb_lt h hl e
  exact key 12 [l] rfl (by simp) (by simp) (by simpa using hl) (by simp)
/-- one statement, the rest put aside -/
theorem wS_cut {f h : Fst} {rho : List D} {N : List D → Prop} {Q : D → List D → Prop} {Bk Ct : List D → Prop} (k : ∀ K : List D → Prop, (∀ r, K r = wS (h r) N Q Bk Ct) → wS (f rho) K Q Bk Ct) : wS (sSeq f h rho) N Q Bk Ct := by
  rw [wS_seq]
  exact k _ fun _ => rfl
theorem idxOf_le_at : ∀ {w : List Nat} {i x : Nat}, w[i]? = some x → w.idxOf x ≤ i
  | [], _, _, h => by simp at h
  | y :: w, 0, x, h => by
    simp at h
    subst h
    simp
  | y :: w, i + 1, x, h => by
    rw [List.idxOf_cons]
    cases (y == x) with
    | true => simp
    | false =>
      simp only [cond_false]
      have := idxOf_le_at (w := w) (i := i) (x := x) (by simpa using h)
      omega
theorem at_idxOf {w : List Nat} {x : Nat} (h : x ∈ w) : w[w.idxOf x]? = some x := by
  have hj := List.idxOf_lt_length_of_mem h
  rw [List.getElem?_eq_getElem hj, List.getElem_idxOf]
end EB
namespace EB
open PySem L2
/-! ### what repr can write: k deep, of weight w -/
def Rb (k w : Nat) (d : D) : Prop := ∃ p, d.py = some p ∧ p.showable = true ∧ p.depth ≤ k ∧ p.leavesShort 100 = true ∧ p.weight ≤ w
theorem Rb_non {k w : Nat} : Rb k w .non := ⟨.none, rfl, rfl, by simp [PyData.depth], rfl, by simp [PyData.weight]⟩
theorem Rb_bl {k w : Nat} {b : Bool} : Rb k w (.bl b) := ⟨.bool b, rfl, rfl, by simp [PyData.depth], rfl, by simp [PyData.weight]⟩
theorem Rb_int {k w : Nat} {i : Int} (h1 : -(10 ^ 70) < i) (h2 : i < 10 ^ 70) (hw : 240 ≤ w) : Rb k w (.int i) := by
  have h : i.natAbs < 10 ^ 70 := by omega
  have hl : i.natAbs.log2 < 240 := by
    by_cases z : i.natAbs = 0
    · rw [z]
      decide
    · rw [Nat.log2_lt z]
      exact Nat.lt_of_lt_of_le h (by decide)
  refine ⟨.int i, rfl, ?_, by simp [PyData.depth], ?_, ?_⟩
  · simp only [PyData.showable, decide_eq_true_eq]
    omega
  · have e := int_text_length_le10 (k := 70) (by decide) h
    simp only [PyData.leavesShort, decide_eq_true_eq]
    show (Str.ofString (toString i)).length ≤ 100
    rw [ofString_length]
    omega
  · simp only [PyData.weight]
    split <;> omega
theorem Rb.all {k w : Nat} : ∀ {ds : List D}, (∀ d ∈ ds, Rb k w d) → ∃ ps, D.pys ds = some ps ∧ PyData.showableAll ps = true ∧ PyData.depthAll ps ≤ k ∧ PyData.leavesShortAll 100 ps = true ∧ PyData.weightAll ps ≤ ds.length * (w + 1)
  | [], _ => ⟨[], rfl, rfl, by simp [PyData.depthAll], rfl, by simp [PyData.weightAll]⟩
  | d :: ds, h => by
    obtain ⟨p, e1, e2, e3, e4, e5⟩ := h d List.mem_cons_self
    obtain ⟨ps, f1, f2, f3, f4, f5⟩ := Rb.all (ds := ds) fun x hx => h x (List.mem_cons_of_mem _ hx)
    refine ⟨p :: ps, by simp [D.pys, e1, f1], by simp [PyData.showableAll, e2, f2], by simp only [PyData.depthAll]; omega, by simp [PyData.leavesShortAll, e4, f4], ?_⟩
    simp only [PyData.weightAll, List.length_cons, Nat.succ_mul]
    omega
theorem Rb.tup {k w : Nat} {ds : List D} (h : ∀ d ∈ ds, Rb k w d) : Rb (k + 1) (ds.length * (w + 1)) (.tup ds) := by
  obtain ⟨ps, f1, f2, f3, f4, f5⟩ := Rb.all h
  exact ⟨.tuple ps, by simp [D.py, f1], by simp [PyData.showable, f2], by simp only [PyData.depth]; omega, by simp [PyData.leavesShort, f4], by simp only [PyData.weight]; exact f5⟩
theorem Rb.lst {k w : Nat} {ds : List D} (h : ∀ d ∈ ds, Rb k w d) : Rb (k + 1) (ds.length * (w + 1)) (.lst ds) := by
  obtain ⟨ps, f1, f2, f3, f4, f5⟩ := Rb.all h
  exact ⟨.list ps, by simp [D.py, f1], by simp [PyData.showable, f2], by simp only [PyData.depth]; omega, by simp [PyData.leavesShort, f4], by simp only [PyData.weight]; exact f5⟩
theorem Rb.le {k k' w w' : Nat} {d : D} (h : Rb k w d) (h1 : k ≤ k') (h2 : w ≤ w') : Rb k' w' d := by
  obtain ⟨p, e1, e2, e3, e4, e5⟩ := h
  exact ⟨p, e1, e2, by omega, e4, by omega⟩
theorem Rb.repr {k w : Nat} {d : D} (h : Rb k w d) (hk : k ≤ 64) (hw : w ≤ 160000) (hd : (∃ ds, d = .tup ds) ∨ ∃ ds, d = .lst ds) : ∃ s, dRepr [d] = .ok (.str s) := by
  obtain ⟨p, e1, e2, e3, e4, e5⟩ := h
  have hs : p.shown.length ≤ 16777216 := by
    have := PyData.shown_le 100 (by decide) p e4
    have h2 : (100 + 2) * p.weight ≤ 102 * 160000 := Nat.mul_le_mul (by decide) (by omega)
    omega
  refine ⟨p.shown, ?_⟩
  rcases hd with ⟨ds, rfl⟩ | ⟨ds, rfl⟩
  · simp only [dRepr, dRepr.reprR, e1]
    rw [if_pos ⟨e2, by omega, hs⟩]
  · simp only [dRepr, dRepr.reprR, e1]
    rw [if_pos ⟨e2, by omega, hs⟩]
/-- a net of no great lengths -/
theorem Rb_net {n : Net} (h : NetOk n) (hl : ∀ l ∈ n, l.1 < 10 ^ 70) : ∃ s, dRepr [netD n] = .ok (.str s) := by
  have h12 := h.hi
  have k : Rb 2 (n.length * 483) (netD n) := by
    have := Rb.tup (k := 1) (w := 482) (ds := n.map lampD) fun d hd => by
      obtain ⟨l, hm, rfl⟩ := List.mem_map.mp hd
      have h1 := h.ln l hm
      have h2 := hl l hm
      have := Rb.tup (k := 0) (w := 240) (ds := [.int l.1, optD l.2]) fun d hd => by
        simp at hd
        rcases hd with rfl | rfl
        · exact Rb_int (by omega) h2 (by omega)
        · cases e : l.2 with
          | none => exact Rb_non
          | some x =>
            have := h.nx l hm x e
            exact Rb_int (by omega) (by omega) (by omega)
      exact this
    rwa [List.length_map] at this
  exact k.repr (by omega) (by omega) (.inl ⟨_, rfl⟩)
theorem dIx_last {d x : D} {ds : List D} (h : d.seq = some ds) (hx : ds[ds.length - 1]? = some x) : dIx d (.int (-1)) = .ok x := by
  have hk := (List.getElem?_eq_some_iff.mp hx).1
  unfold dIx
  simp only [h, atI, ixN]
  rw [if_neg (by decide), if_pos (by omega)]
  have : (-1 + (ds.length : Int)).toNat = ds.length - 1 := by omega
  rw [this]
  simp [hx]
theorem w_cloop_nil {t : Ft} {c : Fb} {fe : Fx} {acc rho : List D} {P : D → List D → Prop} : wE (cloop t c fe [] acc rho) P = P (.lst acc) rho := rfl
theorem w_cloop_cons {t : Ft} {c : Fb} {fe : Fx} {d : D} {ds acc rho : List D} {P : D → List D → Prop} : wE (cloop t c fe (d :: ds) acc rho) P = wR (t d rho) fun r1 => wE (c r1) fun b r2 => (b = true → wE (fe r2) fun y r3 => acc.length < 16777216 ∧ wE (cloop t c fe ds (acc ++ [y]) r3) P) ∧ (b = false → wE (cloop t c fe ds acc r2) P) := by
  conv => lhs; unfold cloop
  cases t d rho with
  | error _ => rfl
  | ok r1 =>
    simp only [wR_ok]
    cases c r1 with
    | error _ => rfl
    | ok z =>
      obtain ⟨b, r2⟩ := z
      simp only [wE_ok]
      cases b with
      | false => simp
      | true =>
        simp only [if_true, true_imp_iff, Bool.true_eq_false, false_imp_iff, and_true]
        cases fe r2 with
        | error _ => rfl
        | ok z =>
          obtain ⟨y, r3⟩ := z
          simp only [wE_ok]
          by_cases h : acc.length < 16777216 <;> simp [h, stuck]
theorem dNe_self {x : D} (h : PlN 64 x) : dNe x x = .ok (.bl false) := by
  rw [dNe_pl h h, PlN.refl h]
  rfl
/-- nothing is kept -/
theorem comp_none {i : Nat} {cf : Fb} {fa : Fx} {ds rho : List D} {P : D → List D → Prop} (hi : i < rho.length) (st : ∀ d ∈ ds, ∀ x, wE (cf ((rho.set i x).set i d)) fun b r => b = false ∧ r = (rho.set i x).set i d) (e : ∀ x, P (.lst []) (rho.set i x)) : wE (cloop (tName i) cf fa ds [] rho) P := by
  refine comp_inv (I := fun n acc r => acc = [] ∧ ∃ x, r = rho.set i x) 0 ⟨rfl, rho[i], by simp⟩ ?_ ?_
  · rintro k d acc r hd ⟨rfl, x, rfl⟩
    simp only [tName, wR_ok]
    refine (st d (List.mem_of_getElem? hd) x).mono ?_
    rintro b r ⟨rfl, rfl⟩
    exact ⟨(fun h => nomatch h), fun _ => ⟨by trivial, d, by rw [List.set_set]⟩⟩
  · rintro acc r ⟨rfl, x, rfl⟩
    exact e x
end EB
set_option exponentiation.threshold 1000
namespace EB
open PySem L2
/-! ### what reprA can write: k deep, of weight w -/
def Re (k w : Nat) (d : D) : Prop := ∃ p, d.rd = some p ∧ p.showable = true ∧ p.depth ≤ k ∧ p.leavesShort 100 = true ∧ p.weight ≤ w
theorem Re_non {k w : Nat} : Re k w .non := ⟨.none, rfl, rfl, by simp [PyData.depth], rfl, by simp [PyData.weight]⟩
theorem Re_bl {k w : Nat} {b : Bool} : Re k w (.bl b) := ⟨.bool b, rfl, rfl, by simp [PyData.depth], rfl, by simp [PyData.weight]⟩
theorem Re_int {k w : Nat} {i : Int} (h1 : -(10 ^ 70) < i) (h2 : i < 10 ^ 70) (hw : 240 ≤ w) : Re k w (.int i) := by
  obtain ⟨p, e1, e2, e3, e4, e5⟩ := Rb_int (k := k) h1 h2 hw
  simp only [D.py, Option.some.injEq] at e1
  subst e1
  exact ⟨_, rfl, e2, e3, e4, e5⟩
theorem Re_str {k w : Nat} {x : Str} (h1 : (PyData.str x).leavesShort 100 = true) (h2 : (PyData.str x).weight ≤ w) : Re k w (.str x) := ⟨.str x, rfl, rfl, by simp [PyData.depth], h1, h2⟩
theorem Re_dct {k w : Nat} (hk : 1 ≤ k) : Re k w (.dct [] []) := ⟨.dict [], rfl, rfl, by simp [PyData.depth, PyData.depthKv]; omega, rfl, by simp [PyData.weight, PyData.weightKv]⟩
theorem Re.all {k w : Nat} : ∀ {ds : List D}, (∀ d ∈ ds, Re k w d) → ∃ ps, D.rds ds = some ps ∧ PyData.showableAll ps = true ∧ PyData.depthAll ps ≤ k ∧ PyData.leavesShortAll 100 ps = true ∧ PyData.weightAll ps ≤ ds.length * (w + 1)
  | [], _ => ⟨[], rfl, rfl, by simp [PyData.depthAll], rfl, by simp [PyData.weightAll]⟩
  | d :: ds, h => by
    obtain ⟨p, e1, e2, e3, e4, e5⟩ := h d List.mem_cons_self
    obtain ⟨ps, f1, f2, f3, f4, f5⟩ := Re.all (ds := ds) fun x hx => h x (List.mem_cons_of_mem _ hx)
    refine ⟨p :: ps, by simp [D.rds, e1, f1], by simp [PyData.showableAll, e2, f2], by simp only [PyData.depthAll]; omega, by simp [PyData.leavesShortAll, e4, f4], ?_⟩
    simp only [PyData.weightAll, List.length_cons, Nat.succ_mul]
    omega
theorem Re.tup {k w : Nat} {ds : List D} (h : ∀ d ∈ ds, Re k w d) : Re (k + 1) (ds.length * (w + 1)) (.tup ds) := by
  obtain ⟨ps, f1, f2, f3, f4, f5⟩ := Re.all h
  exact ⟨.tuple ps, by simp [D.rd, f1], by simp [PyData.showable, f2], by simp only [PyData.depth]; omega, by simp [PyData.leavesShort, f4], by simp only [PyData.weight]; exact f5⟩
theorem Re.lst {k w : Nat} {ds : List D} (h : ∀ d ∈ ds, Re k w d) : Re (k + 1) (ds.length * (w + 1)) (.lst ds) := by
  obtain ⟨ps, f1, f2, f3, f4, f5⟩ := Re.all h
  exact ⟨.list ps, by simp [D.rd, f1], by simp [PyData.showable, f2], by simp only [PyData.depth]; omega, by simp [PyData.leavesShort, f4], by simp only [PyData.weight]; exact f5⟩
theorem Re.le {k k' w w' : Nat} {d : D} (h : Re k w d) (h1 : k ≤ k') (h2 : w ≤ w') : Re k' w' d := by
  obtain ⟨p, e1, e2, e3, e4, e5⟩ := h
  exact ⟨p, e1, e2, by omega, e4, by omega⟩
theorem Re.repr {k w : Nat} {d : D} (h : Re k w d) (hk : k ≤ 64) (hw : w ≤ 160000) : ∃ s, dReprA [d] = .ok (.str s) := by
  obtain ⟨p, e1, e2, e3, e4, e5⟩ := h
  have hs : p.shown.length ≤ 16777216 := by
    have := PyData.shown_le 100 (by decide) p e4
    have h2 : (100 + 2) * p.weight ≤ 102 * 160000 := Nat.mul_le_mul (by decide) (by omega)
    omega
  refine ⟨p.shown, ?_⟩
  simp only [dReprA, e1]
  rw [if_pos ⟨e2, by omega, hs⟩]
/-- a net of no great lengths -/
theorem Re_net {n : Net} (h : NetOk n) (hl : ∀ l ∈ n, l.1 < 10 ^ 70) : Re 2 5796 (netD n) := by
  have h12 := h.hi
  have := Re.tup (k := 1) (w := 482) (ds := n.map lampD) fun d hd => by
    obtain ⟨l, hm, rfl⟩ := List.mem_map.mp hd
    have h1 := h.ln l hm
    have h2 := hl l hm
    have := Re.tup (k := 0) (w := 240) (ds := [.int l.1, optD l.2]) fun d hd => by
      simp at hd
      rcases hd with rfl | rfl
      · exact Re_int (by omega) h2 (by omega)
      · cases e : l.2 with
        | none => exact Re_non
        | some x =>
          have := h.nx l hm x e
          exact Re_int (by omega) (by omega) (by omega)
    exact this
  rw [List.length_map] at this
  exact this.le (by omega) (by omega)
/-! ### closed runs -/
def outE {α : Type} (r : R (α × List D)) : Option α := match r with
  | .ok (d, _) => some d
  | .error _ => none
theorem wE_out {α : Type} {r : R (α × List D)} {d : α} (h : outE r = some d) : wE r fun x _ => x = d := by
  unfold outE at h
  unfold wE
  split at h
  · cases h
    rfl
  · cases h
theorem wXE.toE {α : Type} {r : R (α × List D)} {P : α → List D → Prop} (h : wXE r P fun _ => False) : EB.wE r P := by
  unfold wXE at h
  unfold EB.wE
  split at h
  · exact h
  · exact h.elim
  · exact h.elim
@[simp] theorem w_fpick {ord : List Nat} {fs fk : Fs} {rho : List D} {PA : List D → List D → Prop} : EB.wE (fPick ord fs fk rho) PA = EB.wE (fs rho) fun ds r => EB.wE (fk r) fun es r2 => PA (pick ord (ds ++ es)) r2 := by
  unfold fPick EB.wE
  cases fs rho with
  | error e => rfl
  | ok z =>
    obtain ⟨ds, r⟩ := z
    simp only
    cases fk r <;> rfl
/-- not an instance -/
def D.dat : D → Bool
  | .ins _ _ _ => false
  | _ => true
@[simp] theorem isi_int_d {ks : List Key} {ds : List D} : dIsi .int (.dct ks ds) = .ok (.bl false) := rfl
@[simp] theorem isi_bool_d {ks : List Key} {ds : List D} : dIsi .bool (.dct ks ds) = .ok (.bl false) := rfl
@[simp] theorem isi_tuple_d {ks : List Key} {ds : List D} : dIsi .tuple (.dct ks ds) = .ok (.bl false) := rfl
@[simp] theorem isi_list_d {ks : List Key} {ds : List D} : dIsi .list (.dct ks ds) = .ok (.bl false) := rfl
@[simp] theorem isi_str_d {ks : List Key} {ds : List D} : dIsi .str (.dct ks ds) = .ok (.bl false) := rfl
@[simp] theorem isi_str_i {i : Int} : dIsi .str (.int i) = .ok (.bl false) := rfl
@[simp] theorem isi_str_b {i : Bool} : dIsi .str (.bl i) = .ok (.bl false) := rfl
@[simp] theorem isi_str_n : dIsi .str .non = .ok (.bl false) := rfl
@[simp] theorem isi_str_s {x : Str} : dIsi .str (.str x) = .ok (.bl true) := rfl
@[simp] theorem isi_str_t {x : List D} : dIsi .str (.tup x) = .ok (.bl false) := rfl
@[simp] theorem isi_str_l {x : List D} : dIsi .str (.lst x) = .ok (.bl false) := rfl
/-- a tuple, a list, a number is no text -/
theorem dNe_tstr {ds : List D} {x : Str} (h : PlN 64 (.tup ds)) (hx : PyData.canLay0 (.str x) = true) : dNe (.tup ds) (.str x) = .ok (.bl true) := by
  rw [dNe_pl h (by rw [PlN_str]; exact hx)]
  simp [D.eq]
theorem dNe_lstr {ds : List D} {x : Str} (h : PlN 64 (.lst ds)) (hx : PyData.canLay0 (.str x) = true) : dNe (.lst ds) (.str x) = .ok (.bl true) := by
  rw [dNe_pl h (by rw [PlN_str]; exact hx)]
  simp [D.eq]
/-! ### the jar of k45-k58 -/
theorem dip_bits {b c : Int} (b0 : 0 ≤ b) (b1 : b < 2 ^ 400) (c0 : 0 ≤ c) (c1 : c ≤ 2 ^ 60) : Builtin.Int.intBits (b + 40503 * c * c + 11) ≤ 402 := by
  have h : 40503 * c * c ≤ 40503 * 2 ^ 60 * 2 ^ 60 := Int.mul_le_mul (Int.mul_le_mul_of_nonneg_left c1 (by decide)) c1 c0 (by decide)
  have h0 : 0 ≤ 40503 * c * c := Int.mul_nonneg (Int.mul_nonneg (by decide) c0) c0
  refine bits_le (by omega) ?_
  have : (2 : Int) ^ 402 = 4 * 2 ^ 400 := by decide
  have : (2 : Int) ^ 400 > 40503 * 2 ^ 60 * 2 ^ 60 + 100 := by decide
  omega
end EB
namespace K23
open PySem EB
open L2 hiding wE
-- slots of is_whole: 0:thing
def b_is_whole : Fst :=
  (sRet (fAndE (fOp1 (dIsi .int) Sh.s (fVar 0)) (fNotE (fOp1 (dIsi .bool) Sh.s (fVar 0)))))
def m_is_whole : Fn := runB Sh.s b_is_whole 0
theorem run_is_whole {x0 : D} {P : D → List D → Prop} (h : wS (b_is_whole [x0]) (fun r => P .non r) P (fun _ => False) (fun _ => False)) : wE (m_is_whole [x0]) P := w_runS (k := 0) h
-- slots of is_below: 0:thing 1:many
def b_is_below : Fst :=
  (sRet (fAndE (fOwn m_is_whole [Sh.s] [] (fCons (fVar 0) fNil)) (fChain dLe dLt (fC (.int 0)) (fVar 0) (fVar 1))))
def m_is_below : Fn := runB Sh.s b_is_below 0
theorem run_is_below {x0 x1 : D} {P : D → List D → Prop} (h : wS (b_is_below [x0, x1]) (fun r => P .non r) P (fun _ => False) (fun _ => False)) : wE (m_is_below [x0, x1]) P := w_runS (k := 0) h
-- slots of is_lamp: 0:many 1:thing 2:length 3:following
def b_is_lamp : Fst :=
  (sSeq (sIf (fOrT (fNotT (fTest (fOp1 (dIsi .tuple) Sh.s (fVar 1)) asB)) (fTest (fOp2 dNeA Sh.s Sh.s (fCall dLen [Sh.s] (fCons (fVar 1) fNil)) (fC (.int 2))) asB)) (sRet (fC (.bl false))) sNil) (sSeq (sUnp [2, 3] (fVar 1)) (sRet (fAndE (fOwn m_is_whole [Sh.s] [] (fCons (fVar 2) fNil)) (fAndE (fOp2 dGe Sh.s Sh.s (fVar 2) (fC (.int 1))) (fOrE (fOp2 dIs Sh.s Sh.s (fVar 3) (fC .non)) (fOwn m_is_below [Sh.s, Sh.s] [] (fCons (fVar 3) (fCons (fVar 0) fNil)))))))))
def m_is_lamp : Fn := runB Sh.s b_is_lamp 2
theorem run_is_lamp {x0 x1 : D} {P : D → List D → Prop} (h : wS (b_is_lamp [x0, x1, .non, .non]) (fun r => P .non r) P (fun _ => False) (fun _ => False)) : wE (m_is_lamp [x0, x1]) P := w_runS (k := 2) h
-- slots of is_net: 0:thing 1:lamp
def b_is_net : Fst :=
  (sSeq (sIf (fOrT (fNotT (fTest (fOp1 (dIsi .tuple) Sh.s (fVar 0)) asB)) (fNotT (fTest (fChain dLe dLe (fC (.int 1)) (fCall dLen [Sh.s] (fCons (fVar 0) fNil)) (fC (.int 12))) asB))) (sRet (fC (.bl false))) sNil) (sRet (fCall dAll [Sh.s] (fCons (fComp (fSeq (fVar 0)) (tName 1) fYes (fOwn m_is_lamp [Sh.s, Sh.s] [] (fCons (fCall dLen [Sh.s] (fCons (fVar 0) fNil)) (fCons (fVar 1) fNil)))) fNil))))
def m_is_net : Fn := runB Sh.s b_is_net 1
theorem run_is_net {x0 : D} {P : D → List D → Prop} (h : wS (b_is_net [x0, .non]) (fun r => P .non r) P (fun _ => False) (fun _ => False)) : wE (m_is_net [x0]) P := w_runS (k := 1) h
-- slots of is_kindling: 0:net 1:thing
def b_is_kindling : Fst :=
  (sSeq (sIf (fOrT (fNotT (fTest (fOp1 (dIsi .tuple) Sh.s (fVar 1)) asB)) (fTest (fOp2 dNeA Sh.s Sh.s (fCall dLen [Sh.s] (fCons (fVar 1) fNil)) (fC (.int 2))) asB)) (sRet (fC (.bl false))) sNil) (sRet (fAndE (fOwn m_is_whole [Sh.s] [] (fCons (fOp2 dIx Sh.s Sh.s (fVar 1) (fC (.int 0))) fNil)) (fAndE (fOp2 dGe Sh.s Sh.s (fOp2 dIx Sh.s Sh.s (fVar 1) (fC (.int 0))) (fC (.int 0))) (fOwn m_is_below [Sh.s, Sh.s] [] (fCons (fOp2 dIx Sh.s Sh.s (fVar 1) (fC (.int 1))) (fCons (fCall dLen [Sh.s] (fCons (fVar 0) fNil)) fNil)))))))
def m_is_kindling : Fn := runB Sh.s b_is_kindling 0
theorem run_is_kindling {x0 x1 : D} {P : D → List D → Prop} (h : wS (b_is_kindling [x0, x1]) (fun r => P .non r) P (fun _ => False) (fun _ => False)) : wE (m_is_kindling [x0, x1]) P := w_runS (k := 0) h
-- slots of need_net: 0:net
def b_need_net : Fst :=
  (sIf (fNotT (fTest (fOwn m_is_net [Sh.s] [] (fCons (fVar 0) fNil)) asB)) (sRaise "NoNet") sNil)
def m_need_net : Fn := runB Sh.s b_need_net 0
theorem run_need_net {x0 : D} {P : D → List D → Prop} (h : wS (b_need_net [x0]) (fun r => P .non r) P (fun _ => False) (fun _ => False)) : wE (m_need_net [x0]) P := w_runS (k := 0) h
-- slots of need_lamp: 0:net 1:lamp
def b_need_lamp : Fst :=
  (sIf (fNotT (fTest (fOwn m_is_below [Sh.s, Sh.s] [] (fCons (fVar 1) (fCons (fCall dLen [Sh.s] (fCons (fVar 0) fNil)) fNil))) asB)) (sRaise "NoLamp") sNil)
def m_need_lamp : Fn := runB Sh.s b_need_lamp 0
theorem run_need_lamp {x0 x1 : D} {P : D → List D → Prop} (h : wS (b_need_lamp [x0, x1]) (fun r => P .non r) P (fun _ => False) (fun _ => False)) : wE (m_need_lamp [x0, x1]) P := w_runS (k := 0) h
-- slots of way_of: 0:net 1:lamp 2:way 3:following 4:at
def b_way_of : Fst :=
  (sSeq (sExpr (fOwn m_need_net [Sh.s] [] (fCons (fVar 0) fNil))) (sSeq (sExpr (fOwn m_need_lamp [Sh.s, Sh.s] [] (fCons (fVar 0) (fCons (fVar 1) fNil)))) (sSeq (sSet 2 (fLst (fCons (fVar 1) fNil))) (sSeq (sSet 3 (fOp2 dIx Sh.s Sh.s (fOp2 dIx Sh.s Sh.s (fVar 0) (fVar 1)) (fC (.int 1)))) (sSeq (sWhile (fAndT (fTest (fOp2 dIsNot Sh.s Sh.s (fVar 3) (fC .non)) asB) (fTest (fOp2 dNotInA Sh.s (Sh.b 2) (fVar 3) fBor) asB)) (sSeq (sApp 2 (fVar 3)) (sSet 3 (fOp2 dIx Sh.s Sh.s (fOp2 dIx Sh.s Sh.s (fVar 0) (fVar 3)) (fC (.int 1)))))) (sSeq (sIf (fTest (fOp2 dIs Sh.s Sh.s (fVar 3) (fC .non)) asB) (sRet (fTup (fCons (fCall dTupOf [(Sh.b 2)] (fCons fBor fNil)) (fCons (fTup fNil) fNil)))) sNil) (sSeq (sSet 4 (fIdx (Sh.b 2) fBor (fVar 3))) (sRet (fTup (fCons (fCall dTupOf [Sh.s] (fCons (fSl01 (Sh.b 2) fBor (fVar 4)) fNil)) (fCons (fCall dTupOf [Sh.s] (fCons (fSl10 (Sh.b 2) fBor (fVar 4)) fNil)) fNil)))))))))))
def m_way_of : Fn := runB Sh.s b_way_of 3
theorem run_way_of {x0 x1 : D} {P : D → List D → Prop} (h : wS (b_way_of [x0, x1, .non, .non, .non]) (fun r => P .non r) P (fun _ => False) (fun _ => False)) : wE (m_way_of [x0, x1]) P := w_runS (k := 3) h
-- slots of need_kindling: 0:net 1:thing
def b_need_kindling : Fst :=
  (sSeq (sExpr (fOwn m_need_net [Sh.s] [] (fCons (fVar 0) fNil))) (sIf (fNotT (fTest (fOwn m_is_kindling [Sh.s, Sh.s] [] (fCons (fVar 0) (fCons (fVar 1) fNil))) asB)) (sRaise "NoKindlings") sNil))
def m_need_kindling : Fn := runB Sh.s b_need_kindling 0
theorem run_need_kindling {x0 x1 : D} {P : D → List D → Prop} (h : wS (b_need_kindling [x0, x1]) (fun r => P .non r) P (fun _ => False) (fun _ => False)) : wE (m_need_kindling [x0, x1]) P := w_runS (k := 0) h
-- slots of length_of: 0:net 1:lamps 2:lamp
def b_length_of : Fst :=
  (sRet (fCall dSum [Sh.s] (fCons (fComp (fSeq (fVar 1)) (tName 2) fYes (fOp2 dIx Sh.s Sh.s (fOp2 dIx Sh.s Sh.s (fVar 0) (fVar 2)) (fC (.int 0)))) fNil)))
def m_length_of : Fn := runB Sh.s b_length_of 1
theorem run_length_of {x0 x1 : D} {P : D → List D → Prop} (h : wS (b_length_of [x0, x1, .non]) (fun r => P .non r) P (fun _ => False) (fun _ => False)) : wE (m_length_of [x0, x1]) P := w_runS (k := 1) h
-- slots of spot_in: 0:net 1:lamps 2:beats 3:lamp
def b_spot_in : Fst :=
  (sSeq (sFor (fSeq (fVar 1)) (tName 3) (sSeq (sIf (fTest (fOp2 dLt Sh.s Sh.s (fVar 2) (fOp2 dIx Sh.s Sh.s (fOp2 dIx Sh.s Sh.s (fVar 0) (fVar 3)) (fC (.int 0)))) asB) (sRet (fTup (fCons (fVar 3) (fCons (fVar 2) fNil)))) sNil) (sAugI 2 (fun i j => i - j) (fOp2 dIx Sh.s Sh.s (fOp2 dIx Sh.s Sh.s (fVar 0) (fVar 3)) (fC (.int 0)))))) (sRet (fC .non)))
def m_spot_in : Fn := runB Sh.s b_spot_in 1
theorem run_spot_in {x0 x1 x2 : D} {P : D → List D → Prop} (h : wS (b_spot_in [x0, x1, x2, .non]) (fun r => P .non r) P (fun _ => False) (fun _ => False)) : wE (m_spot_in [x0, x1, x2]) P := w_runS (k := 1) h
-- slots of place_alone: 0:net 1:kindling 2:beat 3:first 4:lamp 5:ahead 6:ring 7:found
def b_place_alone : Fst :=
  (sSeq (sExpr (fOwn m_need_kindling [Sh.s, Sh.s] [] (fCons (fVar 0) (fCons (fVar 1) fNil)))) (sSeq (sIf (fOrT (fNotT (fTest (fOwn m_is_whole [Sh.s] [] (fCons (fVar 2) fNil)) asB)) (fTest (fOp2 dLt Sh.s Sh.s (fVar 2) (fC (.int 0))) asB)) (sRaise "NoBeat") sNil) (sSeq (sUnp [3, 4] (fVar 1)) (sSeq (sIf (fTest (fOp2 dLt Sh.s Sh.s (fVar 2) (fVar 3)) asB) (sRet (fC .non)) sNil) (sSeq (sUnp [5, 6] (fOwn m_way_of [Sh.s, Sh.s] [] (fCons (fVar 0) (fCons (fVar 4) fNil)))) (sSeq (sSet 7 (fOwn m_spot_in [Sh.s, Sh.s, Sh.s] [] (fCons (fVar 0) (fCons (fVar 5) (fCons (fOp2 dSub Sh.s Sh.s (fVar 2) (fVar 3)) fNil))))) (sSeq (sIf (fOrT (fTest (fOp2 dIsNot Sh.s Sh.s (fVar 7) (fC .non)) asB) (fTest (fOp2 dEqA Sh.s Sh.s (fVar 6) (fTup fNil)) asB)) (sRet (fVar 7)) sNil) (sRet (fOwn m_spot_in [Sh.s, Sh.s, Sh.s] [] (fCons (fVar 0) (fCons (fVar 6) (fCons (fOp2 dMod Sh.s Sh.s (fOp2 dSub Sh.s Sh.s (fOp2 dSub Sh.s Sh.s (fVar 2) (fVar 3)) (fOwn m_length_of [Sh.s, Sh.s] [] (fCons (fVar 0) (fCons (fVar 5) fNil)))) (fOwn m_length_of [Sh.s, Sh.s] [] (fCons (fVar 0) (fCons (fVar 6) fNil)))) fNil))))))))))))
def m_place_alone : Fn := runB Sh.s b_place_alone 5
theorem run_place_alone {x0 x1 x2 : D} {P : D → List D → Prop} (h : wS (b_place_alone [x0, x1, x2, .non, .non, .non, .non, .non]) (fun r => P .non r) P (fun _ => False) (fun _ => False)) : wE (m_place_alone [x0, x1, x2]) P := w_runS (k := 5) h
-- slots of first_lit: 0:net 1:kindling 2:lamp 3:first 4:begin 5:ahead 6:ring 7:way 8:beat
def b_first_lit : Fst :=
  (sSeq (sUnp [3, 4] (fVar 1)) (sSeq (sUnp [5, 6] (fOwn m_way_of [Sh.s, Sh.s] [] (fCons (fVar 0) (fCons (fVar 4) fNil)))) (sSeq (sSet 7 (fOp2 dAdd Sh.s Sh.s (fVar 5) (fVar 6))) (sSeq (sIf (fTest (fOp2 dNotInA Sh.s Sh.s (fVar 2) (fVar 7)) asB) (sRet (fC .non)) sNil) (sSeq (sSet 8 (fOp2 dAdd Sh.s Sh.s (fVar 3) (fOwn m_length_of [Sh.s, Sh.s] [] (fCons (fVar 0) (fCons (fSl01 Sh.s (fVar 7) (fIdxT (fVar 7) (fVar 2))) fNil))))) (sRet (fTup (fCons (fVar 8) (fCons (fIfE (fTest (fOp2 dInA Sh.s Sh.s (fVar 2) (fVar 6)) asB) (fOwn m_length_of [Sh.s, Sh.s] [] (fCons (fVar 0) (fCons (fVar 6) fNil))) (fC .non)) fNil)))))))))
def m_first_lit : Fn := runB Sh.s b_first_lit 6
theorem run_first_lit {x0 x1 x2 : D} {P : D → List D → Prop} (h : wS (b_first_lit [x0, x1, x2, .non, .non, .non, .non, .non, .non]) (fun r => P .non r) P (fun _ => False) (fun _ => False)) : wE (m_first_lit [x0, x1, x2]) P := w_runS (k := 6) h
-- slots of lights_alone: 0:net 1:kindling 2:lamp
def b_lights_alone : Fst :=
  (sSeq (sExpr (fOwn m_need_kindling [Sh.s, Sh.s] [] (fCons (fVar 0) (fCons (fVar 1) fNil)))) (sSeq (sExpr (fOwn m_need_lamp [Sh.s, Sh.s] [] (fCons (fVar 0) (fCons (fVar 2) fNil)))) (sRet (fOwn m_first_lit [Sh.s, Sh.s, Sh.s] [] (fCons (fVar 0) (fCons (fVar 1) (fCons (fVar 2) fNil)))))))
def m_lights_alone : Fn := runB Sh.s b_lights_alone 0
theorem run_lights_alone {x0 x1 x2 : D} {P : D → List D → Prop} (h : wS (b_lights_alone [x0, x1, x2]) (fun r => P .non r) P (fun _ => False) (fun _ => False)) : wE (m_lights_alone [x0, x1, x2]) P := w_runS (k := 0) h
-- slots of gap_of: 0:net 1:one 2:other 3:ahead 4:ring 5:lamp 6:told
def b_gap_of : Fst :=
  (sSeq (sExpr (fOwn m_need_kindling [Sh.s, Sh.s] [] (fCons (fVar 0) (fCons (fVar 1) fNil)))) (sSeq (sExpr (fOwn m_need_kindling [Sh.s, Sh.s] [] (fCons (fVar 0) (fCons (fVar 2) fNil)))) (sSeq (sUnp [3, 4] (fOwn m_way_of [Sh.s, Sh.s] [] (fCons (fVar 0) (fCons (fOp2 dIx Sh.s Sh.s (fVar 1) (fC (.int 1))) fNil)))) (sSeq (sFor (fSeq (fOp2 dAdd Sh.s Sh.s (fVar 3) (fVar 4))) (tName 5) (sSeq (sSet 6 (fOwn m_first_lit [Sh.s, Sh.s, Sh.s] [] (fCons (fVar 0) (fCons (fVar 2) (fCons (fVar 5) fNil))))) (sIf (fTest (fOp2 dIsNot Sh.s Sh.s (fVar 6) (fC .non)) asB) (sRet (fTup (fCons (fVar 5) (fCons (fOp2 dSub Sh.s Sh.s (fOp2 dIx Sh.s Sh.s (fVar 6) (fC (.int 0))) (fOp2 dIx Sh.s Sh.s (fOwn m_first_lit [Sh.s, Sh.s, Sh.s] [] (fCons (fVar 0) (fCons (fVar 1) (fCons (fVar 5) fNil)))) (fC (.int 0)))) fNil)))) sNil))) (sRet (fC .non))))))
def m_gap_of : Fn := runB Sh.s b_gap_of 4
theorem run_gap_of {x0 x1 x2 : D} {P : D → List D → Prop} (h : wS (b_gap_of [x0, x1, x2, .non, .non, .non, .non]) (fun r => P .non r) P (fun _ => False) (fun _ => False)) : wE (m_gap_of [x0, x1, x2]) P := w_runS (k := 4) h
-- slots of _law_jar: 0:cell 1:k
def b__law_jar : Fst :=
  (sRet (fLst (fCons (fCall dMax2 [Sh.s, Sh.s] (fCons (fC (.int 0)) (fCons (fOp2 dSub Sh.s Sh.s (fVar 0) (fOp2 dPow Sh.s Sh.s (fC (.int 10)) (fC (.int 18)))) fNil))) (fCons (fOp2 dAdd Sh.s Sh.s (fOp2 dAdd Sh.s Sh.s (fOp2 dPow Sh.s Sh.s (fOp2 dMod Sh.s Sh.s (fVar 0) (fOp2 dAdd Sh.s Sh.s (fOp2 dPow Sh.s Sh.s (fC (.int 10)) (fC (.int 38))) (fC (.int 133)))) (fC (.int 3))) (fOp2 dMul Sh.s Sh.s (fC (.int 2147483629)) (fVar 1))) (fC (.int 3))) (fCons (fC (.int 0)) fNil)))))
def m__law_jar : Fn := runB (Sh.l Sh.s) b__law_jar 0
theorem run__law_jar {x0 x1 : D} {P : D → List D → Prop} (h : wS (b__law_jar [x0, x1]) (fun _ => False) P (fun _ => False) (fun _ => False)) : wE (m__law_jar [x0, x1]) P := w_run (k := 0) h
-- slots of _law_pull: 0:jar 1:many 2:found
def b__law_pull : Fst :=
  (sSeq (sIf (fTest (fOp2 dGt Sh.s Sh.s (fOp2 dIx (Sh.b 0) Sh.s fBor (fC (.int 0))) (fC (.int 0))) asB) (sSeq (sSet 2 (fOp2 dMod Sh.s Sh.s (fOp2 dIx (Sh.b 0) Sh.s fBor (fC (.int 0))) (fVar 1))) (sSeq (sSetI 0 (fOp2 dFdiv Sh.s Sh.s (fOp2 dIx (Sh.b 0) Sh.s fBor (fC (.int 0))) (fVar 1)) (fC (.int 0))) (sRet (fVar 2)))) sNil) (sSeq (sSetI 0 (fOp2 dAdd Sh.s Sh.s (fOp2 dIx (Sh.b 0) Sh.s fBor (fC (.int 2))) (fC (.int 1))) (fC (.int 2))) (sSeq (sSetI 0 (fOp2 dMod Sh.s Sh.s (fOp2 dAdd Sh.s Sh.s (fOp2 dAdd Sh.s Sh.s (fOp2 dPow Sh.s Sh.s (fOp2 dIx (Sh.b 0) Sh.s fBor (fC (.int 1))) (fC (.int 3))) (fOp2 dMul Sh.s Sh.s (fC (.int 87178291)) (fOp2 dIx (Sh.b 0) Sh.s fBor (fC (.int 2))))) (fC (.int 5))) (fOp2 dAdd Sh.s Sh.s (fOp2 dPow Sh.s Sh.s (fC (.int 10)) (fC (.int 33))) (fC (.int 61)))) (fC (.int 1))) (sRet (fOp2 dMod Sh.s Sh.s (fOp2 dFdiv Sh.s Sh.s (fOp2 dIx (Sh.b 0) Sh.s fBor (fC (.int 1))) (fOp2 dPow Sh.s Sh.s (fC (.int 10)) (fC (.int 8)))) (fVar 1))))))
def m__law_pull : Fn := runB Sh.s b__law_pull 1
theorem run__law_pull {x0 x1 : D} {P : D → List D → Prop} (h : wS (b__law_pull [x0, x1, .non]) (fun r => P .non r) P (fun _ => False) (fun _ => False)) : wE (m__law_pull [x0, x1]) P := w_runS (k := 1) h
-- slots of _law_cells: 0:script 1:most
def b__law_cells : Fst :=
  (sRet (fOp2 dAdd Sh.s Sh.s (fSl01 Sh.s (fVar 0) (fVar 1)) (fRepL (fLst (fCons (fC (.int 0)) fNil)) (fCall dInt [Sh.s] (fCons (fOp2 dEqA Sh.s Sh.s (fVar 0) (fLst fNil)) fNil)))))
def m__law_cells : Fn := runB Sh.s b__law_cells 0
theorem run__law_cells {x0 x1 : D} {P : D → List D → Prop} (h : wS (b__law_cells [x0, x1]) (fun r => P .non r) P (fun _ => False) (fun _ => False)) : wE (m__law_cells [x0, x1]) P := w_runS (k := 0) h
-- slots of _law_next: 0:jar 1:many 2:k 3:kind 4:some 5:there
def b__law_next : Fst :=
  (sSeq (sSet 4 (fLst (fCons (fOp2 dSub Sh.s Sh.s (fOwn m__law_pull [(Sh.b 0), Sh.s] [(0, 0)] (fCons fBor (fCons (fOp2 dAdd Sh.s Sh.s (fVar 1) (fC (.int 1))) fNil))) (fC (.int 1))) (fCons (fOp2 dMod Sh.s Sh.s (fOp2 dAdd Sh.s Sh.s (fVar 2) (fC (.int 1))) (fVar 1)) (fCons (fOwn m__law_pull [(Sh.b 0), Sh.s] [(0, 0)] (fCons fBor (fCons (fOp2 dAdd Sh.s Sh.s (fVar 2) (fC (.int 1))) fNil))) (fCons (fOp2 dAdd Sh.s Sh.s (fVar 2) (fC (.int 1))) fNil)))))) (sSeq (sSet 5 (fOp2 dIx Sh.s Sh.s (fVar 4) (fVar 3))) (sRet (fIfE (fOrT (fTest (fOp2 dLt Sh.s Sh.s (fVar 5) (fC (.int 0))) asB) (fTest (fOp2 dGe Sh.s Sh.s (fVar 5) (fVar 1)) asB)) (fC .non) (fVar 5)))))
def m__law_next : Fn := runB Sh.s b__law_next 2
theorem run__law_next {x0 x1 x2 x3 : D} {P : D → List D → Prop} (h : wS (b__law_next [x0, x1, x2, x3, .non, .non]) (fun r => P .non r) P (fun _ => False) (fun _ => False)) : wE (m__law_next [x0, x1, x2, x3]) P := w_runS (k := 2) h
-- slots of _law_net: 0:jar 1:wide 2:many 3:kind 4:size 5:found 6:k
def b__law_net : Fst :=
  (sSeq (sSet 2 (fOp2 dIx Sh.s Sh.s (fLst (fCons (fOp2 dAdd Sh.s Sh.s (fC (.int 1)) (fOwn m__law_pull [(Sh.b 0), Sh.s] [(0, 0)] (fCons fBor (fCons (fC (.int 12)) fNil)))) (fCons (fOp2 dAdd Sh.s Sh.s (fC (.int 1)) (fOwn m__law_pull [(Sh.b 0), Sh.s] [(0, 0)] (fCons fBor (fCons (fC (.int 4)) fNil)))) fNil))) (fOwn m__law_pull [(Sh.b 0), Sh.s] [(0, 0)] (fCons fBor (fCons (fC (.int 2)) fNil))))) (sSeq (sSet 3 (fOwn m__law_pull [(Sh.b 0), Sh.s] [(0, 0)] (fCons fBor (fCons (fC (.int 4)) fNil)))) (sSeq (sSet 4 (fOp2 dIx Sh.s Sh.s (fLst (fCons (fC (.int 2)) (fCons (fC (.int 5)) (fCons (fVar 1) fNil)))) (fOwn m__law_pull [(Sh.b 0), Sh.s] [(0, 0)] (fCons fBor (fCons (fC (.int 3)) fNil))))) (sSeq (sSet 5 (fLst fNil)) (sSeq (sFor (fRng1 (fCons (fVar 2) fNil)) (tName 6) (sApp 5 (fTup (fCons (fOp2 dAdd Sh.s Sh.s (fC (.int 1)) (fOwn m__law_pull [(Sh.b 0), Sh.s] [(0, 0)] (fCons fBor (fCons (fVar 4) fNil)))) (fCons (fOwn m__law_next [(Sh.b 0), Sh.s, Sh.s, Sh.s] [(0, 0)] (fCons fBor (fCons (fVar 2) (fCons (fVar 6) (fCons (fVar 3) fNil))))) fNil))))) (sRet (fCall dTupOf [(Sh.b 5)] (fCons fBor fNil))))))))
def m__law_net : Fn := runB Sh.s b__law_net 5
theorem run__law_net {x0 x1 : D} {P : D → List D → Prop} (h : wS (b__law_net [x0, x1, .non, .non, .non, .non, .non]) (fun r => P .non r) P (fun _ => False) (fun _ => False)) : wE (m__law_net [x0, x1]) P := w_runS (k := 5) h
-- slots of _law_kind: 0:caught 1:some 2:words
def b__law_kind : Fst :=
  (sSeq (sSet 1 (fLst (fCons (fOp1 (dIsX [("NoBeat", false), ("NoKindlings", false), ("NoLamp", false), ("NoNet", true)]) Sh.s (fVar 0)) (fCons (fOp1 (dIsX [("NoBeat", false), ("NoKindlings", true), ("NoLamp", false), ("NoNet", false)]) Sh.s (fVar 0)) (fCons (fOp1 (dIsX [("NoBeat", true), ("NoKindlings", false), ("NoLamp", false), ("NoNet", false)]) Sh.s (fVar 0)) fNil))))) (sSeq (sApp 1 (fOp1 (dIsX [("NoBeat", false), ("NoKindlings", false), ("NoLamp", true), ("NoNet", false)]) Sh.s (fVar 0))) (sSeq (sIf (fOrT (fTest (fOp1 (dIsX [("NoBeat", false), ("NoKindlings", false), ("NoLamp", false), ("NoNet", false)]) Sh.s (fVar 0)) asB) (fTest (fOp2 dNeA Sh.s Sh.s (fCount (Sh.b 1) fBor (fC (.bl true))) (fC (.int 1))) asB)) (sRet (fC (.str (PySem.Str.ofString "odd")))) sNil) (sSeq (sSet 2 (fLst (fCons (fC (.str (PySem.Str.ofString "net"))) (fCons (fC (.str (PySem.Str.ofString "kindling"))) (fCons (fC (.str (PySem.Str.ofString "beat"))) (fCons (fC (.str (PySem.Str.ofString "lamp"))) fNil)))))) (sRet (fIfE (fTest (fOp1 (dIsX [("NoBeat", true), ("NoKindlings", true), ("NoLamp", true), ("NoNet", true)]) Sh.s (fVar 0)) asB) (fOp2 dIx Sh.s Sh.s (fVar 2) (fIdx (Sh.b 1) fBor (fC (.bl true)))) (fC (.str (PySem.Str.ofString "odd")))))))))
def m__law_kind : Fn := runB Sh.s b__law_kind 2
theorem run__law_kind {x0 : D} {P : D → List D → Prop} (h : wS (b__law_kind [x0, .non, .non]) (fun r => P .non r) P (fun _ => False) (fun _ => False)) : wE (m__law_kind [x0]) P := w_runS (k := 2) h
-- slots of _law_told: 0:door 1:land 2:start 3:second 4:caught
def b__law_told : Fst :=
  (sTry ["NoBeat", "NoKindlings", "NoLamp", "NoNet"] 4 (sIf (fTest (fOp2 dEqA Sh.s Sh.s (fVar 0) (fC (.int 0))) asB) (sRet (fLst (fCons (fOwn m_place_alone [Sh.s, Sh.s, Sh.s] [] (fCons (fVar 1) (fCons (fVar 2) (fCons (fVar 3) fNil)))) fNil))) (sIf (fTest (fOp2 dEqA Sh.s Sh.s (fVar 0) (fC (.int 1))) asB) (sRet (fLst (fCons (fOwn m_lights_alone [Sh.s, Sh.s, Sh.s] [] (fCons (fVar 1) (fCons (fVar 2) (fCons (fVar 3) fNil)))) fNil))) (sRet (fLst (fCons (fOwn m_gap_of [Sh.s, Sh.s, Sh.s] [] (fCons (fVar 1) (fCons (fVar 2) (fCons (fVar 3) fNil)))) fNil))))) (sRet (fOwn m__law_kind [Sh.s] [] (fCons (fVar 4) fNil))))
def m__law_told : Fn := runB Sh.s b__law_told 1
theorem run__law_told {x0 x1 x2 x3 : D} {P : D → List D → Prop} (h : wS (b__law_told [x0, x1, x2, x3, .non]) (fun r => P .non r) P (fun _ => False) (fun _ => False)) : wE (m__law_told [x0, x1, x2, x3]) P := w_runS (k := 1) h
-- slots of _law_named: 0:door 1:land 2:start 3:second
def b__law_named : Fst :=
  (sSeq (sIf (fTest (fOp2 dEqA Sh.s Sh.s (fVar 0) (fC (.int 0))) asB) (sRet (fLst (fCons (fOwn m_place_alone [Sh.s, Sh.s, Sh.s] [] (fPick [2, 1, 0] fNil (fCons (fVar 3) (fCons (fVar 2) (fCons (fVar 1) fNil))))) fNil))) sNil) (sSeq (sIf (fTest (fOp2 dEqA Sh.s Sh.s (fVar 0) (fC (.int 1))) asB) (sRet (fLst (fCons (fOwn m_lights_alone [Sh.s, Sh.s, Sh.s] [] (fPick [1, 2, 0] fNil (fCons (fVar 3) (fCons (fVar 1) (fCons (fVar 2) fNil))))) fNil))) sNil) (sRet (fLst (fCons (fOwn m_gap_of [Sh.s, Sh.s, Sh.s] [] (fPick [2, 1, 0] fNil (fCons (fVar 3) (fCons (fVar 2) (fCons (fVar 1) fNil))))) fNil)))))
def m__law_named : Fn := runB (Sh.l Sh.s) b__law_named 0
theorem run__law_named {x0 x1 x2 x3 : D} {P : D → List D → Prop} (h : wS (b__law_named [x0, x1, x2, x3]) (fun _ => False) P (fun _ => False) (fun _ => False)) : wE (m__law_named [x0, x1, x2, x3]) P := w_run (k := 0) h
-- slots of _law_no_kindling: 0:jar 1:land 2:some
def b__law_no_kindling : Fst :=
  (sSeq (sSet 2 (fLst (fCons (fC .non) (fCons (fC (.int 0)) (fCons (fC (.str (PySem.Str.ofString "0"))) (fCons (fTup fNil) (fCons (fLst fNil) (fCons (fC (.dct [] [])) (fCons (fTup (fCons (fC (.int 0)) fNil)) (fCons (fLst (fCons (fC (.int 0)) (fCons (fC (.int 0)) fNil))) (fCons (fTup (fCons (fC (.int 0)) (fCons (fC (.int 0)) (fCons (fC (.int 0)) fNil)))) (fCons (fTup (fCons (fOp1 dNeg .s (fC (.int 1))) (fCons (fC (.int 0)) fNil))) (fCons (fTup (fCons (fC (.int 0)) (fCons (fOp1 dNeg .s (fC (.int 1))) fNil))) (fCons (fTup (fCons (fC (.int 0)) (fCons (fCall dLen [Sh.s] (fCons (fVar 1) fNil)) fNil))) (fCons (fTup (fCons (fC (.bl true)) (fCons (fC (.int 0)) fNil))) (fCons (fTup (fCons (fC (.int 0)) (fCons (fC (.bl false)) fNil))) fNil)))))))))))))))) (sSeq (sSet 2 (fOp2 dAdd Sh.s Sh.s (fVar 2) (fLst (fCons (fTup (fCons (fC (.int 0)) (fCons (fC .non) fNil))) (fCons (fTup (fCons (fC (.str (PySem.Str.ofString "0"))) (fCons (fC (.int 0)) fNil))) (fCons (fTup (fCons (fC .non) (fCons (fC (.int 0)) fNil))) (fCons (fTup (fCons (fTup (fCons (fC (.int 0)) (fCons (fC (.int 0)) fNil))) fNil)) (fCons (fTup (fCons (fC (.int 0)) (fCons (fTup (fCons (fC (.int 0)) fNil)) fNil))) (fCons (fLst (fCons (fTup (fCons (fC (.int 0)) (fCons (fC (.int 0)) fNil))) fNil)) (fCons (fTup (fCons (fOp2 dSub Sh.s Sh.s (fC (.int 0)) (fOp2 dPow Sh.s Sh.s (fC (.int 10)) (fC (.int 59)))) (fCons (fC (.int 0)) fNil))) (fCons (fTup (fCons (fC (.int 0)) (fCons (fOp2 dPow Sh.s Sh.s (fC (.int 10)) (fC (.int 59))) fNil))) fNil))))))))))) (sRet (fOp2 dIx Sh.s Sh.s (fVar 2) (fOwn m__law_pull [(Sh.b 0), Sh.s] [(0, 0)] (fCons fBor (fCons (fCall dLen [Sh.s] (fCons (fVar 2) fNil)) fNil)))))))
def m__law_no_kindling : Fn := runB Sh.s b__law_no_kindling 1
theorem run__law_no_kindling {x0 x1 : D} {P : D → List D → Prop} (h : wS (b__law_no_kindling [x0, x1, .non]) (fun r => P .non r) P (fun _ => False) (fun _ => False)) : wE (m__law_no_kindling [x0, x1]) P := w_runS (k := 1) h
-- slots of _law_no_number: 0:jar 1:most 2:some
def b__law_no_number : Fst :=
  (sSeq (sSet 2 (fOp2 dAdd Sh.s Sh.s (fLst (fCons (fC .non) (fCons (fC (.bl true)) (fCons (fC (.bl false)) (fCons (fC (.str (PySem.Str.ofString "0"))) (fCons (fC (.str (PySem.Str.ofString ""))) (fCons (fLst fNil) (fCons (fLst (fCons (fC (.int 0)) fNil)) (fCons (fTup (fCons (fC (.int 0)) fNil)) (fCons (fC (.dct [] [])) (fCons (fOp1 dNeg .s (fC (.int 1))) (fCons (fOp2 dSub Sh.s Sh.s (fC (.int 0)) (fOp2 dPow Sh.s Sh.s (fC (.int 10)) (fC (.int 59)))) fNil)))))))))))) (fRepL (fLst (fCons (fVar 1) fNil)) (fCall dInt [Sh.s] (fCons (fOp2 dGt Sh.s Sh.s (fVar 1) (fC (.int 0))) fNil))))) (sRet (fOp2 dIx Sh.s Sh.s (fVar 2) (fOwn m__law_pull [(Sh.b 0), Sh.s] [(0, 0)] (fCons fBor (fCons (fCall dLen [Sh.s] (fCons (fVar 2) fNil)) fNil))))))
def m__law_no_number : Fn := runB Sh.s b__law_no_number 1
theorem run__law_no_number {x0 x1 : D} {P : D → List D → Prop} (h : wS (b__law_no_number [x0, x1, .non]) (fun r => P .non r) P (fun _ => False) (fun _ => False)) : wE (m__law_no_number [x0, x1]) P := w_runS (k := 1) h
-- slots of _law_no_net: 0:jar 1:land 2:some
def b__law_no_net : Fst :=
  (sSeq (sSet 2 (fLst (fCons (fC .non) (fCons (fC (.int 1)) (fCons (fC (.str (PySem.Str.ofString "net"))) (fCons (fTup fNil) (fCons (fLst fNil) (fCons (fCall dLstOf [Sh.s] (fCons (fVar 1) fNil)) (fCons (fOp2 dAdd Sh.s Sh.s (fVar 1) (fOp2 dRepT Sh.s Sh.s (fTup (fCons (fTup (fCons (fC (.int 1)) (fCons (fC (.int 0)) fNil))) fNil)) (fC (.int 12)))) (fCons (fOp2 dAdd Sh.s Sh.s (fVar 1) (fTup (fCons (fC .non) fNil))) (fCons (fTup (fCons (fTup (fCons (fC (.int 0)) (fCons (fC .non) fNil))) fNil)) (fCons (fTup (fCons (fTup (fCons (fC (.int 1)) (fCons (fC (.int 1)) fNil))) fNil)) (fCons (fC (.dct [] [])) fNil))))))))))))) (sRet (fOp2 dIx Sh.s Sh.s (fOp2 dAdd Sh.s Sh.s (fVar 2) (fLst (fCons (fTup (fCons (fTup (fCons (fC (.bl true)) (fCons (fC (.int 0)) fNil))) fNil)) (fCons (fTup (fCons (fTup (fCons (fC (.int 1)) (fCons (fC (.bl true)) fNil))) fNil)) (fCons (fTup (fCons (fTup (fCons (fC (.int 1)) (fCons (fOp1 dNeg .s (fC (.int 1))) fNil))) fNil)) (fCons (fTup (fCons (fLst (fCons (fC (.int 1)) (fCons (fC (.int 0)) fNil))) fNil)) (fCons (fOp2 dAdd Sh.s Sh.s (fVar 1) (fTup (fCons (fTup (fCons (fC (.int 1)) fNil)) fNil))) fNil))))))) (fOwn m__law_pull [(Sh.b 0), Sh.s] [(0, 0)] (fCons fBor (fCons (fC (.int 16)) fNil))))))
def m__law_no_net : Fn := runB Sh.s b__law_no_net 1
theorem run__law_no_net {x0 x1 : D} {P : D → List D → Prop} (h : wS (b__law_no_net [x0, x1, .non]) (fun r => P .non r) P (fun _ => False) (fun _ => False)) : wE (m__law_no_net [x0, x1]) P := w_runS (k := 1) h
-- slots of _law_right: 0:jar 1:land 2:turn 3:door 4:asked 5:dues 6:kept 7:told
def b__law_right : Fst :=
  (sSeq (sSet 1 (fOwn m__law_net [(Sh.b 0), Sh.s] [(0, 0)] (fCons fBor (fCons (fC (.int 30)) fNil)))) (sSeq (sFor (fRng1 (fCons (fC (.int 12)) fNil)) (tName 2) (sSeq (sSet 3 (fOwn m__law_pull [(Sh.b 0), Sh.s] [(0, 0)] (fCons fBor (fCons (fC (.int 3)) fNil)))) (sSeq (sSet 4 (fLst (fCons (fVar 1) (fCons (fTup (fCons (fOwn m__law_pull [(Sh.b 0), Sh.s] [(0, 0)] (fCons fBor (fCons (fC (.int 30)) fNil))) (fCons (fOwn m__law_pull [(Sh.b 0), Sh.s] [(0, 0)] (fCons fBor (fCons (fCall dLen [Sh.s] (fCons (fVar 1) fNil)) fNil))) fNil))) (fCons (fOwn m__law_pull [(Sh.b 0), Sh.s] [(0, 0)] (fCons fBor (fCons (fC (.int 200)) fNil))) fNil))))) (sSeq (sIf (fTest (fOp2 dEqA Sh.s Sh.s (fVar 3) (fC (.int 1))) asB) (sSetI 4 (fOwn m__law_pull [(Sh.b 0), Sh.s] [(0, 0)] (fCons fBor (fCons (fCall dLen [Sh.s] (fCons (fVar 1) fNil)) fNil))) (fC (.int 2))) sNil) (sSeq (sIf (fTest (fOp2 dEqA Sh.s Sh.s (fVar 3) (fC (.int 2))) asB) (sSetI 4 (fTup (fCons (fOwn m__law_pull [(Sh.b 0), Sh.s] [(0, 0)] (fCons fBor (fCons (fC (.int 30)) fNil))) (fCons (fOwn m__law_pull [(Sh.b 0), Sh.s] [(0, 0)] (fCons fBor (fCons (fCall dLen [Sh.s] (fCons (fVar 1) fNil)) fNil))) fNil))) (fC (.int 2))) sNil) (sSeq (sSet 5 (fLst fNil)) (sSeq (sIf (fTest (fOp2 dEqA Sh.s Sh.s (fOwn m__law_pull [(Sh.b 0), Sh.s] [(0, 0)] (fCons fBor (fCons (fC (.int 3)) fNil))) (fC (.int 0))) asB) (sSeq (sIf (fTest (fOp2 dLt Sh.s Sh.s (fVar 3) (fC (.int 2))) asB) (sSetI 4 (fOwn m__law_no_number [(Sh.b 0), Sh.s] [(0, 0)] (fCons fBor (fCons (fOp2 dIx Sh.s Sh.s (fLst (fCons (fC (.int 0)) (fCons (fCall dLen [Sh.s] (fCons (fVar 1) fNil)) fNil))) (fVar 3)) fNil))) (fC (.int 2))) (sSetI 4 (fOwn m__law_no_kindling [(Sh.b 0), Sh.s] [(0, 0)] (fCons fBor (fCons (fVar 1) fNil))) (fC (.int 2)))) (sSet 5 (fLst (fCons (fOp2 dIx Sh.s Sh.s (fLst (fCons (fC (.str (PySem.Str.ofString "beat"))) (fCons (fC (.str (PySem.Str.ofString "lamp"))) (fCons (fC (.str (PySem.Str.ofString "kindling"))) fNil)))) (fVar 3)) fNil)))) sNil) (sSeq (sIf (fTest (fOp2 dEqA Sh.s Sh.s (fOwn m__law_pull [(Sh.b 0), Sh.s] [(0, 0)] (fCons fBor (fCons (fC (.int 3)) fNil))) (fC (.int 0))) asB) (sSeq (sSetI 4 (fOwn m__law_no_kindling [(Sh.b 0), Sh.s] [(0, 0)] (fCons fBor (fCons (fVar 1) fNil))) (fC (.int 1))) (sSet 5 (fLst (fCons (fC (.str (PySem.Str.ofString "kindling"))) fNil)))) sNil) (sSeq (sIf (fTest (fOp2 dEqA Sh.s Sh.s (fOwn m__law_pull [(Sh.b 0), Sh.s] [(0, 0)] (fCons fBor (fCons (fC (.int 3)) fNil))) (fC (.int 0))) asB) (sSeq (sSetI 4 (fOwn m__law_no_net [(Sh.b 0), Sh.s] [(0, 0)] (fCons fBor (fCons (fVar 1) fNil))) (fC (.int 0))) (sSet 5 (fLst (fCons (fC (.str (PySem.Str.ofString "net"))) fNil)))) sNil) (sSeq (sSet 6 (fCall dReprA [(Sh.b 4)] (fCons fBor fNil))) (sSeq (sSet 7 (fOwn m__law_told [Sh.s, Sh.s, Sh.s, Sh.s] [] (fCons (fVar 3) (fCons (fOp2 dIx (Sh.b 4) Sh.s fBor (fC (.int 0))) (fCons (fOp2 dIx (Sh.b 4) Sh.s fBor (fC (.int 1))) (fCons (fOp2 dIx (Sh.b 4) Sh.s fBor (fC (.int 2))) fNil)))))) (sSeq (sIf (fOrT (fAndT (fTest (fOp2 dEqA Sh.s Sh.s (fVar 5) (fLst fNil)) asB) (fTest (fOp2 dNeA Sh.s Sh.s (fVar 7) (fOwn m__law_named [Sh.s, Sh.s, Sh.s, Sh.s] [] (fCons (fVar 3) (fCons (fOp2 dIx (Sh.b 4) Sh.s fBor (fC (.int 0))) (fCons (fOp2 dIx (Sh.b 4) Sh.s fBor (fC (.int 1))) (fCons (fOp2 dIx (Sh.b 4) Sh.s fBor (fC (.int 2))) fNil)))))) asB)) (fTest (fOp2 dNeA Sh.s Sh.s (fCall dReprA [(Sh.b 4)] (fCons fBor fNil)) (fVar 6)) asB)) (sRet (fC (.bl false))) sNil) (sIf (fAndT (fTest (fOp2 dNeA Sh.s Sh.s (fVar 5) (fLst fNil)) asB) (fTest (fOp2 dNeA Sh.s Sh.s (fVar 7) (fOp2 dIx Sh.s Sh.s (fVar 5) (fC (.int 0)))) asB)) (sRet (fC (.bl false))) sNil))))))))))))) (sRet (fC (.bl true)))))
def m__law_right : Fn := runB Sh.s b__law_right 7
theorem run__law_right {x0 : D} {P : D → List D → Prop} (h : wS (b__law_right [x0, .non, .non, .non, .non, .non, .non, .non]) (fun r => P .non r) P (fun _ => False) (fun _ => False)) : wE (m__law_right [x0]) P := w_runS (k := 7) h
-- slots of law: 0:script 1:cells 2:k
def b_law : Fst :=
  (sSeq (sSet 1 (fOwn m__law_cells [Sh.s, Sh.s] [] (fCons (fVar 0) (fCons (fC (.int 8)) fNil)))) (sSeq (sFor (fRng1 (fCons (fCall dLen [Sh.s] (fCons (fVar 1) fNil)) fNil)) (tName 2) (sIf (fNotT (fTest (fOwn1 m__law_right (fOwn m__law_jar [Sh.s, Sh.s] [] (fCons (fOp2 dIx Sh.s Sh.s (fVar 1) (fVar 2)) (fCons (fVar 2) fNil)))) asB)) (sRet (fC (.bl false))) sNil)) (sRet (fC (.bl true)))))
def m_law : Fn := runB Sh.s b_law 2
theorem run_law {x0 : D} {P : D → List D → Prop} (h : wS (b_law [x0, .non, .non]) (fun r => P .non r) P (fun _ => False) (fun _ => False)) : wE (m_law [x0]) P := w_runS (k := 2) h
end K23
set_option exponentiation.threshold 1000
namespace K23
open PySem EB
open L2 hiding wE
theorem w_is_whole {x : D} (h : NI x) : wE (m_is_whole [x]) fun d _ => d = .bl (wholeB x) := by
  apply run_is_whole
  cases x with
  | ins => exact h.ins.elim
  | dct => exact h.dct.elim
  | _ => simp [b_is_whole, wholeB]
theorem w_is_below {x : D} {many : Int} (h : NI x) : wE (m_is_below [x, .int many]) fun d _ => d = .bl (belowB x many) := by
  apply run_is_below
  simp only [b_is_below, wS_ret, w_andE, w_own, w_cons, w_nil, w_var, List.getD_cons_zero]
  refine (w_is_whole h).mono ?_
  rintro _ _ rfl
  cases x <;> simp [wholeB, belowB]
  omega
theorem w_is_lamp {x : D} {many : Int} (h : NI x) : wE (m_is_lamp [.int many, x]) fun d _ => d = .bl (lampB many x) := by
  apply run_is_lamp
  cases x with
  | ins => exact h.ins.elim
  | dct => exact h.dct.elim
  | tup ds =>
    match ds, h with
    | [], h => simp [b_is_lamp, lampB]
    | [_], h => simp [b_is_lamp, lampB]
    | _ :: _ :: _ :: _, h => simp [b_is_lamp, lampB]; omega
    | [a, b], h =>
      have ha := h.tup a (by simp)
      have hb := h.tup b (by simp)
      simp [b_is_lamp, lampB]
      refine (w_is_whole ha).mono ?_
      rintro _ _ rfl
      cases a <;> simp [wholeB]
      rename_i i
      refine ⟨fun h1 => ⟨fun h2 => by simp [h1, h2], fun h2 => ?_⟩, fun h1 => ?_⟩
      · refine (w_is_below hb).mono ?_
        rintro _ _ rfl
        simp [h1, h2]
      · intro h2
        omega
  | _ => simp [b_is_lamp, lampB]
theorem w_is_net {x : D} (h : NI x) : wE (m_is_net [x]) fun d _ => d = .bl (isNetB x) := by
  apply run_is_net
  cases x with
  | ins => exact h.ins.elim
  | dct => exact h.dct.elim
  | tup ds =>
    simp [b_is_net, isNetB]
    refine ⟨fun h1 => ⟨fun h2 => fun h3 => by intro h4; omega, fun h2 => ?_⟩, fun h1 => by intros; omega⟩
    refine comp_map (F := fun d => .bl (lampB ds.length d)) (by simp) (by omega) (fun d hd y => ?_) (fun y => ?_)
    · simp
      refine (w_is_lamp (h.tup d hd)).mono ?_
      rintro _ _ rfl
      simp
    · simp only [List.zipWith_cons_cons, List.zipWith_nil_right, res_s, dAll_map, wR_ok]
      have e1 : 1 ≤ ds.length := by omega
      have e2 : ds.length ≤ 12 := by omega
      simp [e1, e2]
  | _ => simp [b_is_net, isNetB]
theorem w_is_kindling {n : Net} {x : D} (h : NI x) : wE (m_is_kindling [netD n, x]) fun d _ => d = .bl (kindB n.length x) := by
  apply run_is_kindling
  cases x with
  | ins => exact h.ins.elim
  | dct => exact h.dct.elim
  | tup ds =>
    match ds, h with
    | [], h => simp [b_is_kindling, kindB]
    | [_], h => simp [b_is_kindling, kindB]
    | _ :: _ :: _ :: _, h => simp [b_is_kindling, kindB]; omega
    | [a, b], h =>
      have ha := h.tup a (by simp)
      have hb := h.tup b (by simp)
      simp [b_is_kindling, kindB]
      refine (w_is_whole ha).mono ?_
      rintro _ _ rfl
      cases a <;> simp [wholeB]
      rename_i i
      refine ⟨fun h1 => ?_, fun h1 h2 => by omega⟩
      simp only [netD, dLen_t, wR_ok, List.length_map]
      refine (w_is_below hb).mono ?_
      rintro _ _ rfl
      simp [h1]
  | _ => simp [b_is_kindling, kindB]
theorem w_need_net {n : Net} (h : NetOk n) : wE (m_need_net [netD n]) fun _ _ => True := by
  apply run_need_net
  simp [b_need_net]
  refine (w_is_net NI_net).mono ?_
  rintro _ _ rfl
  simp [h.isNet]
theorem w_need_lamp {n : Net} {l : Nat} (h : l < n.length) : wE (m_need_lamp [netD n, .int (l : Nat)]) fun _ _ => True := by
  apply run_need_lamp
  simp [b_need_lamp, netD]
  refine (w_is_below (by simp)).mono ?_
  rintro _ _ rfl
  simp [belowB, h]
theorem w_way_of {n : Net} {l : Nat} (h : NetOk n) (hl : l < n.length) : wE (m_way_of [netD n, .int (l : Nat)]) fun d _ => ∃ ahead ring, d = .tup [.tup (ahead.map nD), .tup (ring.map nD)] ∧ Way n l ahead ring := by
  apply run_way_of
  simp only [b_way_of, wS_seq, wS_expr, w_own, w_cons, w_nil, w_var, List.getD_cons_zero, List.getD_cons_succ, List.zipWith_cons_cons, List.zipWith_nil_right, res_s, backD_nil]
  refine (w_need_net h).mono fun _ _ _ => ?_
  refine (w_need_lamp hl).mono fun _ _ _ => ?_
  simp [dIx_net hl]
  refine while_inv (I := fun r => ∃ w x, r = [netD n, .int (l : Nat), .lst (w.map nD), optD (orb n l w.length), x] ∧ w.Nodup ∧ (∀ i, i < w.length → orb n l i = w[i]?) ∧ (∀ x ∈ w, x < n.length) ∧ w ≠ []) (M := fun r => match r with
    | [_, _, .lst w, _, _] => 12 - w.length
    | _ => 0) ⟨[l], .non, by simp [nD, orb_s], by simp, by simp, by simpa using hl, by simp⟩ (by simp) ?_
  rintro r ⟨w, x, rfl, nd, at_, lt, ne⟩
  have wl := Nat.le_trans (nodup_le nd lt) h.hi
  cases e : orb n l w.length with
  | none =>
    simp
    exact ⟨w, [], ⟨rfl, rfl⟩, ⟨by simpa using nd, by simpa using at_, by simpa using e, by simpa using lt, by simpa using ne⟩⟩
  | some f =>
    have hf := orb_lt h hl e
    simp [dIx_net hf]
    refine ⟨fun hn => ⟨by omega, ⟨w ++ [f], by simp [nD, orb_s, e], ?_, ?_, ?_, by simp⟩, ?_⟩, fun hi => ?_⟩
    · rw [List.nodup_append]
      exact ⟨nd, by simp, fun a ha b hb => by simp at hb; subst hb; exact fun z => hn (z ▸ ha)⟩
    · intro i hi
      rw [List.length_append, List.length_singleton] at hi
      by_cases z : i < w.length
      · rw [List.getElem?_append_left z, at_ i z]
      · have : i = w.length := by omega
        subst this
        simp [e]
    · intro x hx
      rcases List.mem_append.mp hx with z | z
      · exact lt x z
      · simp at z
        subst z
        exact hf
    · have : (w ++ [f]).length ≤ n.length := nodup_le (by
        rw [List.nodup_append]
        exact ⟨nd, by simp, fun a ha b hb => by simp at hb; subst hb; exact fun z => hn (z ▸ ha)⟩) (fun x hx => by
          rcases List.mem_append.mp hx with z | z
          · exact lt x z
          · simp at z
            subst z
            exact hf)
      have h2 := h.hi
      rw [List.length_append, List.length_singleton] at this
      omega
    · simp [dIdx_nD hi]
      have hj : w.idxOf f < w.length := List.idxOf_lt_length_of_mem hi
      refine ⟨w.take (w.idxOf f), w.drop (w.idxOf f), ⟨List.map_take.symm, List.map_drop.symm⟩, ?_⟩
      refine ⟨by rw [List.take_append_drop]; exact nd, by rw [List.take_append_drop]; exact at_, ?_, by rw [List.take_append_drop]; exact lt, by rw [List.take_append_drop]; exact ne⟩
      rw [List.take_append_drop, e, List.head?_drop, List.getElem?_eq_getElem hj, List.getElem_idxOf]
theorem w_need_kindling {n : Net} {b : Int} {l : Nat} (h : NetOk n) (hl : l < n.length) (hb : 0 ≤ b) : wE (m_need_kindling [netD n, kD b l]) fun _ _ => True := by
  apply run_need_kindling
  simp [b_need_kindling]
  refine (w_need_net h).mono fun _ _ _ => ?_
  refine (w_is_kindling (NI.of_tup (k := 0) (by simp))).mono ?_
  rintro _ _ rfl
  simp [kindB, belowB, hl, hb]
theorem w_length_of {n : Net} {xs : List Nat} (h : NetOk n) (hx : ∀ x ∈ xs, x < n.length) (hl : xs.length ≤ 16777216) {d : D} (hd : d.seq = some (xs.map nD)) : wE (m_length_of [netD n, d]) fun d _ => d = .int (lens n xs) := by
  apply run_length_of
  simp [b_length_of, hd]
  refine comp_map (F := fun d => match d with | .int i => .int (len n i.toNat) | _ => .non) (by simp) (by simpa using hl) (fun d hd y => ?_) (fun y => ?_)
  · obtain ⟨x, h1, rfl⟩ := List.mem_map.mp hd
    simp [nD, dIx_net (hx x h1)]
  · simp only [List.map_map]
    have e : ((fun d => match d with | D.int i => D.int (len n i.toNat) | _ => .non) ∘ nD) = fun x => D.int (len n x) := by
      funext x
      simp [nD]
    rw [e]
    simp [dSum_map, lens]
theorem w_spot_in {n : Net} {xs : List Nat} {b : Int} (h : NetOk n) (hx : ∀ x ∈ xs, x < n.length) {d : D} (hd : d.seq = some (xs.map nD)) : wE (m_spot_in [netD n, d, .int b]) fun d _ => d = spotD (spot n xs b) := by
  apply run_spot_in
  simp [b_spot_in, hd]
  refine for_inv (I := fun k r => ∃ b', ∃ y, r = [netD n, d, .int b', y] ∧ spot n xs b = spot n (xs.drop k) b') ⟨b, .non, rfl, rfl⟩ ?_ ?_
  · rintro k z r hz ⟨b', y, rfl, e⟩
    rw [List.getElem?_map, Option.map_eq_some_iff] at hz
    obtain ⟨x, hz, rfl⟩ := hz
    have hxn := hx x (List.mem_of_getElem? hz)
    have hk := (List.getElem?_eq_some_iff.mp hz).1
    have ed : xs.drop k = x :: xs.drop (k + 1) := by
      rw [List.drop_eq_getElem_cons hk]
      rw [List.getElem?_eq_getElem hk] at hz
      cases hz
      rfl
    rw [ed] at e
    rw [spot_cons] at e
    simp [tName, nD, dIx_net hxn]
    refine ⟨fun h1 => ?_, fun h1 => ?_⟩
    · rw [e, if_pos h1]
      rfl
    · rw [e, if_neg (by omega)]
  · rintro r ⟨b', y, rfl, e⟩
    rw [List.length_map, List.drop_length] at e
    rw [e]
    rfl
theorem w_place_alone {n : Net} {b : Int} {l : Nat} {at_ : Int} (h : NetOk n) (hl : l < n.length) (hb : 0 ≤ b) (ha : 0 ≤ at_) : wE (m_place_alone [netD n, kD b l, .int at_]) fun d _ =>
    (at_ < b ∧ d = .non) ∨ (b ≤ at_ ∧ ∃ ahead ring, Way n l ahead ring ∧ d = spotD (alone n ahead ring (at_ - b))) := by
  apply run_place_alone
  simp [b_place_alone]
  refine (w_need_kindling h hl hb).mono fun _ _ _ => ?_
  refine (w_is_whole (by simp)).mono ?_
  rintro _ _ rfl
  simp [wholeB, kD]
  refine ⟨fun h1 => by omega, fun _ => ⟨fun h1 => .inl h1, fun h1 => ?_⟩⟩
  refine (w_way_of h hl).mono ?_
  rintro _ _ ⟨ahead, ring, rfl, w⟩
  simp
  refine (w_spot_in h (fun x hx => w.lt x (List.mem_append_left _ hx)) rfl).mono ?_
  rintro _ _ rfl
  have hA : ahead.length ≤ 16777216 := by
    have := nodup_le w.nd w.lt
    have := h.hi
    rw [List.length_append] at *
    omega
  cases e : spot n ahead (at_ - b) with
  | some p =>
    obtain ⟨x, r⟩ := p
    simp [spotD]
    exact ⟨h1, ahead, ring, w, by simp [alone, e]⟩
  | none =>
    simp [spotD]
    refine ⟨fun hr => .inr ⟨h1, ahead, ring, w, by simp [alone, e, hr]⟩, fun hr => ?_⟩
    have hR : ring.length ≤ 16777216 := by
      have := nodup_le w.nd w.lt
      have := h.hi
      rw [List.length_append] at *
      omega
    refine (w_length_of h (fun x hx => w.lt x (List.mem_append_left _ hx)) hA rfl).mono ?_
    rintro _ _ rfl
    simp
    refine (w_length_of h (fun x hx => w.lt x (List.mem_append_right _ hx)) hR rfl).mono ?_
    rintro _ _ rfl
    have hL := lens_pos h hr
    simp
    refine ⟨by omega, ?_⟩
    refine (w_spot_in h (fun x hx => w.lt x (List.mem_append_right _ hx)) rfl).mono ?_
    rintro _ _ rfl
    refine .inr ⟨h1, ahead, ring, w, ?_⟩
    simp [alone, e, hr, spotD]
theorem w_jar {cell : Int} {k : Nat} (hk : k ≤ 100) : wE (m__law_jar [.int cell, .int (k : Nat)]) fun d _ => JarD 0 d := by
  apply run__law_jar
  simp [b__law_jar]
  have m0 := Int.emod_nonneg cell (show (100000000000000000000000000000000000133 : Int) ≠ 0 by decide)
  have m1 := Int.emod_lt_of_pos cell (show (0 : Int) < 100000000000000000000000000000000000133 by decide)
  obtain ⟨c0, c1⟩ := cube_lt m0 m1
  have b1 : Builtin.Int.intBits (cell % 100000000000000000000000000000000000133) ≤ 200 := bits_le (by omega) (by omega)
  have b2 : Builtin.Int.intBits 2147483629 ≤ 200 := bits_le (by decide) (by decide)
  have b3 : Builtin.Int.intBits (k : Int) ≤ 200 := bits_le (by omega) (by omega)
  refine ⟨by omega, by omega, _, _, _, rfl, by omega, by omega, ?_, by decide, by decide⟩
  have : (100000000000000000000000000000000000133 : Int) ^ 3 + 1000000000000000 < 2 ^ 400 := by decide
  omega
theorem w_pull {C : Nat} {j : D} {many : Int} (hj : JarD C j) (hC : C ≤ 2 ^ 60) (hm : Sm many) : wE (m__law_pull [j, .int many]) fun d out => ∃ v : Int, d = .int v ∧ 0 ≤ v ∧ v < many ∧ JarD (C + 1) (out[0]?.getD .non) := by
  apply run__law_pull
  obtain ⟨a, b, c, rfl, a0, b0, b1, c0, c1⟩ := hj
  obtain ⟨h0, lg⟩ := hm
  have f1 : Builtin.Int.intBits b ≤ 400 := bits_le (by omega) b1
  have f2 : Builtin.Int.intBits (c + 1) ≤ 400 := bits_le (by omega) (by omega)
  have f3 : Builtin.Int.intBits 87178291 ≤ 400 := bits_le (by decide) (by decide)
  simp [b__law_pull]
  refine ⟨fun ha => ⟨h0, ⟨h0, by omega⟩, Int.emod_nonneg _ (by omega), Int.emod_lt_of_pos _ h0, _, _, _, rfl, Int.ediv_nonneg (by omega) (by omega), b0, b1, c0, by omega⟩, fun ha => ?_⟩
  refine ⟨by omega, by omega, ?_⟩
  have g0 := Int.emod_nonneg (b ^ 3 + 87178291 * (c + 1) + 5) (show (1000000000000000000000000000000061 : Int) ≠ 0 by decide)
  have g1 := Int.emod_lt_of_pos (b ^ 3 + 87178291 * (c + 1) + 5) (show (0 : Int) < 1000000000000000000000000000000061 by decide)
  exact ⟨by decide +kernel, h0, Int.emod_nonneg _ (by omega), Int.emod_lt_of_pos _ h0, _, _, _, rfl, a0, g0, by omega, by omega, by omega⟩
theorem w_cells {ns : List Int} {m : Nat} (h : 1 ≤ m) (hn : ns.length ≤ 63) : wE (m__law_cells [.lst (ns.map D.int), .int (m : Nat)]) fun d _ => ∃ cs : List Int, d = .lst (cs.map D.int) ∧ cs.length ≤ m := by
  apply run__law_cells
  simp [b__law_cells]
  by_cases e : ns = []
  · subst e
    simp [dAdd_l]
    exact ⟨[0], by simp, by simpa using h⟩
  · simp [dAdd_l, e]
    refine ⟨by omega, ns.take m, by simp, by rw [List.length_take]; omega⟩
theorem w_next {C : Nat} {j : D} {many k : Nat} {kind : Int} (hj : JarD C j) (hC : C ≤ 2 ^ 59) (hk : k < many) (hm : many ≤ 12) (k0 : 0 ≤ kind) (k1 : kind < 4) : wE (m__law_next [j, .int (many : Nat), .int (k : Nat), .int kind]) fun d out => ∃ x : Option Nat, d = optD x ∧ (∀ i, x = some i → i < many) ∧ JarD (C + 2) (out[0]?.getD .non) := by
  apply run__law_next
  simp [b__law_next]
  refine (w_pull hj (by omega) (.of (by omega) (by omega))).mono ?_
  rintro _ out ⟨v, rfl, v0, v1, hj1⟩
  simp
  refine ⟨by omega, ?_⟩
  refine (w_pull hj1 (by omega) (.of (by omega) (by omega))).mono ?_
  rintro _ out2 ⟨u, rfl, u0, u1, hj2⟩
  generalize hds : [D.int (v - 1), D.int (((k : Int) + 1) % (many : Int)), D.int u, D.int ((k : Int) + 1)] = ds
  obtain ⟨x, hx, ex⟩ := dIx_in (d := .lst ds) rfl k0 (by rw [← hds]; simpa using k1)
  obtain ⟨t, rfl⟩ : ∃ t : Int, x = .int t := by
    rw [← hds] at hx
    simp at hx
    rcases hx with h | h | h | h <;> exact ⟨_, h⟩
  simp [ex]
  refine ⟨fun h => ⟨none, rfl, by simp, hj2⟩, fun h => ⟨fun h2 => ⟨none, rfl, by simp, hj2⟩, fun h2 => ⟨some t.toNat, ?_, ?_, hj2⟩⟩⟩
  · simp [Int.toNat_of_nonneg h]
  · simp
    omega
theorem w_net {C : Nat} {j : D} {wide : Int} (hj : JarD C j) (hC : C ≤ 2 ^ 58) (hw : Sm wide) : wE (m__law_net [j, .int wide]) fun d out => ∃ n : Net, d = netD n ∧ NetOk n ∧ JarD (C + 41) (out[0]?.getD .non) := by
  apply run__law_net
  simp [b__law_net]
  refine (w_pull hj (by omega) (.of (by omega) (by omega))).mono ?_
  rintro _ out1 ⟨v1, rfl, a1, b1, j1⟩
  try simp
  refine (w_pull j1 (by omega) (.of (by omega) (by omega))).mono ?_
  rintro _ out2 ⟨v2, rfl, a2, b2, j2⟩
  try simp
  refine (w_pull j2 (by omega) (.of (by omega) (by omega))).mono ?_
  rintro _ out3 ⟨v3, rfl, a3, b3, j3⟩
  obtain ⟨many, hm, em⟩ : ∃ m : Nat, (1 ≤ m ∧ m ≤ 12) ∧ dIx (.lst [.int (1 + v1), .int (1 + v2)]) (.int v3) = .ok (.int (m : Nat)) := by
    rcases (show v3 = 0 ∨ v3 = 1 by omega) with rfl | rfl
    · exact ⟨(1 + v1).toNat, by omega, by simp [Int.toNat_of_nonneg (show 0 ≤ 1 + v1 by omega)]⟩
    · exact ⟨(1 + v2).toNat, by omega, by simp [Int.toNat_of_nonneg (show 0 ≤ 1 + v2 by omega)]⟩
  simp [em]
  refine (w_pull j3 (by omega) (.of (by omega) (by omega))).mono ?_
  rintro _ out4 ⟨kind, rfl, a4, b4, j4⟩
  try simp
  refine (w_pull j4 (by omega) (.of (by omega) (by omega))).mono ?_
  rintro _ out5 ⟨v5, rfl, a5, b5, j5⟩
  obtain ⟨size, hs, es⟩ : ∃ m : Int, Sm m ∧ dIx (.lst [.int 2, .int 5, .int wide]) (.int v5) = .ok (.int m) := by
    rcases (show v5 = 0 ∨ v5 = 1 ∨ v5 = 2 by omega) with rfl | rfl | rfl
    · exact ⟨2, Sm.of (by decide) (by decide), by simp⟩
    · exact ⟨5, Sm.of (by decide) (by decide), by simp⟩
    · exact ⟨wide, hw, by simp⟩
  simp [es]
  refine ⟨by omega, ?_⟩
  refine forR_inv (I := fun k r => ∃ (n : Net) (jr y : D), r = [jr, .int wide, .int (many : Nat), .int kind, .int size, .lst (n.map lampD), y] ∧ n.length = k ∧ (∀ l ∈ n, 1 ≤ l.1) ∧ (∀ l ∈ n, ∀ i, l.2 = some i → i < many) ∧ JarD (C + 5 + 3 * k) jr)
    ⟨[], _, _, rfl, rfl, by simp, by simp, j5⟩ ?_ ?_
  · rintro k r hk ⟨n, jr, y, rfl, hn, h1, h2, hj⟩
    try simp
    refine (w_pull hj (by omega) hs).mono ?_
    rintro _ out6 ⟨v6, rfl, a6, b6, j6⟩
    try simp
    refine (w_next j6 (by omega) hk (by omega) a4 b4).mono ?_
    rintro _ out7 ⟨x, rfl, hx, j7⟩
    try simp
    refine ⟨by omega, n ++ [(1 + v6, x)], _, ⟨rfl, by simp [lampD]⟩, by simp [hn], ?_, ?_, j7.le (by omega)⟩
    · intro a b hab
      simp at hab
      rcases hab with z | ⟨rfl, rfl⟩
      · exact h1 _ z
      · omega
    · intro a b hab
      simp at hab
      rcases hab with z | ⟨rfl, rfl⟩
      · exact h2 _ z
      · exact hx
  · rintro r ⟨n, jr, y, rfl, hn, h1, h2, hj⟩
    try simp
    exact ⟨n, rfl, ⟨by omega, by omega, h1, by rw [hn]; exact h2⟩, hj.le (by omega)⟩
theorem w_netB {C : Nat} {j : D} {wide : Int} (hj : JarD C j) (hC : C ≤ 2 ^ 58) (hw : Sm wide) (hwb : wide ≤ 10 ^ 60) : wE (m__law_net [j, .int wide]) fun d out => ∃ n : Net, d = netD n ∧ NetOk n ∧ (∀ l ∈ n, l.1 < 10 ^ 70) ∧ JarD (C + 41) (out[0]?.getD .non) := by
  apply run__law_net
  simp [b__law_net]
  refine (w_pull hj (by omega) (.of (by omega) (by omega))).mono ?_
  rintro _ out1 ⟨v1, rfl, a1, b1, j1⟩
  try simp
  refine (w_pull j1 (by omega) (.of (by omega) (by omega))).mono ?_
  rintro _ out2 ⟨v2, rfl, a2, b2, j2⟩
  try simp
  refine (w_pull j2 (by omega) (.of (by omega) (by omega))).mono ?_
  rintro _ out3 ⟨v3, rfl, a3, b3, j3⟩
  obtain ⟨many, hm, em⟩ : ∃ m : Nat, (1 ≤ m ∧ m ≤ 12) ∧ dIx (.lst [.int (1 + v1), .int (1 + v2)]) (.int v3) = .ok (.int (m : Nat)) := by
    rcases (show v3 = 0 ∨ v3 = 1 by omega) with rfl | rfl
    · exact ⟨(1 + v1).toNat, by omega, by simp [Int.toNat_of_nonneg (show 0 ≤ 1 + v1 by omega)]⟩
    · exact ⟨(1 + v2).toNat, by omega, by simp [Int.toNat_of_nonneg (show 0 ≤ 1 + v2 by omega)]⟩
  simp [em]
  refine (w_pull j3 (by omega) (.of (by omega) (by omega))).mono ?_
  rintro _ out4 ⟨kind, rfl, a4, b4, j4⟩
  try simp
  refine (w_pull j4 (by omega) (.of (by omega) (by omega))).mono ?_
  rintro _ out5 ⟨v5, rfl, a5, b5, j5⟩
  obtain ⟨size, hs, es⟩ : ∃ m : Int, (Sm m ∧ m ≤ 10 ^ 60) ∧ dIx (.lst [.int 2, .int 5, .int wide]) (.int v5) = .ok (.int m) := by
    rcases (show v5 = 0 ∨ v5 = 1 ∨ v5 = 2 by omega) with rfl | rfl | rfl
    · exact ⟨2, ⟨Sm.of (by decide) (by decide), by decide⟩, by simp⟩
    · exact ⟨5, ⟨Sm.of (by decide) (by decide), by decide⟩, by simp⟩
    · exact ⟨wide, ⟨hw, hwb⟩, by simp⟩
  simp [es]
  refine ⟨by omega, ?_⟩
  refine forR_inv (I := fun k r => ∃ (n : Net) (jr y : D), r = [jr, .int wide, .int (many : Nat), .int kind, .int size, .lst (n.map lampD), y] ∧ n.length = k ∧ (∀ l ∈ n, 1 ≤ l.1 ∧ l.1 < 10 ^ 70) ∧ (∀ l ∈ n, ∀ i, l.2 = some i → i < many) ∧ JarD (C + 5 + 3 * k) jr)
    ⟨[], _, _, rfl, rfl, by simp, by simp, j5⟩ ?_ ?_
  · rintro k r hk ⟨n, jr, y, rfl, hn, h1, h2, hj⟩
    try simp
    refine (w_pull hj (by omega) hs.1).mono ?_
    rintro _ out6 ⟨v6, rfl, a6, b6, j6⟩
    try simp
    refine (w_next j6 (by omega) hk (by omega) a4 b4).mono ?_
    rintro _ out7 ⟨x, rfl, hx, j7⟩
    try simp
    refine ⟨by omega, n ++ [(1 + v6, x)], _, ⟨rfl, by simp [lampD]⟩, by simp [hn], ?_, ?_, j7.le (by omega)⟩
    · intro a b hab
      simp at hab
      rcases hab with z | ⟨rfl, rfl⟩
      · exact h1 _ z
      · exact ⟨by omega, by have := hs.2; omega⟩
    · intro a b hab
      simp at hab
      rcases hab with z | ⟨rfl, rfl⟩
      · exact h2 _ z
      · exact hx
  · rintro r ⟨n, jr, y, rfl, hn, h1, h2, hj⟩
    try simp
    exact ⟨n, rfl, ⟨by omega, by omega, fun l hl => (h1 l hl).1, by rw [hn]; exact h2⟩, fun a o hl => (h1 (a, o) hl).2, hj.le (by omega)⟩
end K23
set_option exponentiation.threshold 1000
namespace K23
open PySem EB
open L2 hiding wE
theorem w_is_whole2 {x : D} (h : x.dat = true) : wE (m_is_whole [x]) fun d _ => d = .bl (wholeB x) := by
  refine run_is_whole ?_
  cases x with
  | ins => cases h
  | _ => simp [b_is_whole, wholeB]
theorem w_is_below2 {x : D} {many : Int} (h : x.dat = true) : wE (m_is_below [x, .int many]) fun d _ => d = .bl (belowB x many) := by
  refine run_is_below ?_
  simp only [b_is_below, wS_ret, w_andE, w_own, w_cons, w_nil, w_var, List.getD_cons_zero]
  refine (w_is_whole2 h).mono ?_
  rintro _ _ rfl
  cases x <;> simp [wholeB, belowB]
  omega
/-- no instance inside, so deep -/
def Dd : Nat → D → Prop
  | 0, x => x.dat = true
  | k + 1, x => x.dat = true ∧ ∀ ds, (x = .tup ds ∨ x = .lst ds) → ∀ d ∈ ds, Dd k d
theorem Dd.dat : ∀ {k : Nat} {x : D}, Dd k x → x.dat = true
  | 0, _, h => h
  | _ + 1, _, h => h.1
theorem Dd.tup {k : Nat} {ds : List D} (h : Dd (k + 1) (.tup ds)) : ∀ d ∈ ds, Dd k d := h.2 ds (.inl rfl)
theorem Dd.of_tup {k : Nat} {ds : List D} (h : ∀ d ∈ ds, Dd k d) : Dd (k + 1) (.tup ds) := ⟨rfl, fun es e => by
  rcases e with e | e
  · cases e
    exact h
  · cases e⟩
theorem Dd.of_lst {k : Nat} {ds : List D} (h : ∀ d ∈ ds, Dd k d) : Dd (k + 1) (.lst ds) := ⟨rfl, fun es e => by
  rcases e with e | e
  · cases e
  · cases e
    exact h⟩
@[simp] theorem Dd_int : ∀ {k : Nat} {i : Int}, Dd k (.int i)
  | 0, _ => rfl
  | k + 1, _ => ⟨rfl, fun es e => by rcases e with e | e <;> cases e⟩
@[simp] theorem Dd_bl : ∀ {k : Nat} {i : Bool}, Dd k (.bl i)
  | 0, _ => rfl
  | k + 1, _ => ⟨rfl, fun es e => by rcases e with e | e <;> cases e⟩
@[simp] theorem Dd_str : ∀ {k : Nat} {i : Str}, Dd k (.str i)
  | 0, _ => rfl
  | k + 1, _ => ⟨rfl, fun es e => by rcases e with e | e <;> cases e⟩
@[simp] theorem Dd_non : ∀ {k : Nat}, Dd k .non
  | 0 => rfl
  | k + 1 => ⟨rfl, fun es e => by rcases e with e | e <;> cases e⟩
@[simp] theorem Dd_dct : ∀ {k : Nat} {c : List Key} {ds : List D}, Dd k (.dct c ds)
  | 0, _, _ => rfl
  | k + 1, _, _ => ⟨rfl, fun es e => by rcases e with e | e <;> cases e⟩
theorem Dd.le : ∀ {k : Nat} {x : D}, Dd (k + 1) x → Dd k x
  | 0, _, h => h.1
  | k + 1, _, h => ⟨h.1, fun ds e d hd => (h.2 ds e d hd).le⟩
def lowB (x : D) (low : Int) : Bool := match x with
  | .int i => decide (low ≤ i)
  | _ => false
/-! ### what reprA can write, by bulk -/
def Rk (k w : Nat) (d : D) : Prop := ∃ p, d.rd = some p ∧ p.showable = true ∧ p.depth ≤ k ∧ p.leavesShort 100 = true ∧ p.bulk ≤ w
theorem Rk_non {k w : Nat} : Rk k w .non := ⟨.none, rfl, rfl, by simp [PyData.depth], rfl, by simp [PyData.bulk]⟩
theorem Rk_bl {k w : Nat} {b : Bool} : Rk k w (.bl b) := ⟨.bool b, rfl, rfl, by simp [PyData.depth], rfl, by simp [PyData.bulk]⟩
theorem Rk_int {k w : Nat} {i : Int} (h1 : -(10 ^ 70) < i) (h2 : i < 10 ^ 70) : Rk k w (.int i) := by
  obtain ⟨p, e1, e2, e3, e4, e5⟩ := Re_int (k := k) (w := 240) h1 h2 (Nat.le_refl _)
  simp only [D.rd, Option.some.injEq] at e1
  subst e1
  exact ⟨_, rfl, e2, e3, e4, by simp [PyData.bulk]⟩
theorem Rk_str {k w : Nat} {x : Str} (h1 : (PyData.str x).leavesShort 100 = true) (h2 : (PyData.str x).bulk ≤ w) : Rk k w (.str x) := ⟨.str x, rfl, rfl, by simp [PyData.depth], h1, h2⟩
theorem Rk_dct {k w : Nat} (hk : 1 ≤ k) : Rk k w (.dct [] []) := ⟨.dict [], rfl, rfl, by simp [PyData.depth, PyData.depthKv]; omega, rfl, by simp [PyData.bulk, PyData.bulkKv]⟩
theorem Rk.all {k w : Nat} : ∀ {ds : List D}, (∀ d ∈ ds, Rk k w d) → ∃ ps, D.rds ds = some ps ∧ PyData.showableAll ps = true ∧ PyData.depthAll ps ≤ k ∧ PyData.leavesShortAll 100 ps = true ∧ PyData.bulkAll ps ≤ ds.length * (w + 1)
  | [], _ => ⟨[], rfl, rfl, by simp [PyData.depthAll], rfl, by simp [PyData.bulkAll]⟩
  | d :: ds, h => by
    obtain ⟨p, e1, e2, e3, e4, e5⟩ := h d List.mem_cons_self
    obtain ⟨ps, f1, f2, f3, f4, f5⟩ := Rk.all (ds := ds) fun x hx => h x (List.mem_cons_of_mem _ hx)
    refine ⟨p :: ps, by simp [D.rds, e1, f1], by simp [PyData.showableAll, e2, f2], by simp only [PyData.depthAll]; omega, by simp [PyData.leavesShortAll, e4, f4], ?_⟩
    simp only [PyData.bulkAll, List.length_cons, Nat.succ_mul]
    omega
theorem Rk.tup {k w : Nat} {ds : List D} (h : ∀ d ∈ ds, Rk k w d) : Rk (k + 1) (ds.length * (w + 1)) (.tup ds) := by
  obtain ⟨ps, f1, f2, f3, f4, f5⟩ := Rk.all h
  exact ⟨.tuple ps, by simp [D.rd, f1], by simp [PyData.showable, f2], by simp only [PyData.depth]; omega, by simp [PyData.leavesShort, f4], by simp only [PyData.bulk]; exact f5⟩
theorem Rk.lst {k w : Nat} {ds : List D} (h : ∀ d ∈ ds, Rk k w d) : Rk (k + 1) (ds.length * (w + 1)) (.lst ds) := by
  obtain ⟨ps, f1, f2, f3, f4, f5⟩ := Rk.all h
  exact ⟨.list ps, by simp [D.rd, f1], by simp [PyData.showable, f2], by simp only [PyData.depth]; omega, by simp [PyData.leavesShort, f4], by simp only [PyData.bulk]; exact f5⟩
theorem Rk.le {k k' w w' : Nat} {d : D} (h : Rk k w d) (h1 : k ≤ k') (h2 : w ≤ w') : Rk k' w' d := by
  obtain ⟨p, e1, e2, e3, e4, e5⟩ := h
  exact ⟨p, e1, e2, by omega, e4, by omega⟩
theorem Rk.repr {k w : Nat} {d : D} (h : Rk k w d) (hk : k ≤ 64) (hw : w ≤ 160000) : ∃ s, dReprA [d] = .ok (.str s) := by
  obtain ⟨p, e1, e2, e3, e4, e5⟩ := h
  have hs : p.shown.length ≤ 16777216 := by
    have := PyData.shown_le_bulk 100 (by decide) p e4
    have h2 : (100 + 2) * p.bulk ≤ 102 * 160000 := Nat.mul_le_mul (by decide) (by omega)
    omega
  refine ⟨p.shown, ?_⟩
  simp only [dReprA, e1]
  rw [if_pos ⟨e2, by omega, hs⟩]
theorem w_is_lamp2 {x : D} {many : Int} (h : Dd 1 x) : wE (m_is_lamp [.int many, x]) fun d _ => d = .bl (lampB many x) := by
  refine run_is_lamp ?_
  cases x with
  | ins => cases h.1
  | tup ds =>
    match ds, h with
    | [], h => simp [b_is_lamp, lampB]
    | [_], h => simp [b_is_lamp, lampB]
    | _ :: _ :: _ :: _, h => simp [b_is_lamp, lampB]; omega
    | [a, b], h =>
      have ha := h.tup a (by simp)
      have hb := h.tup b (by simp)
      simp [b_is_lamp, lampB]
      refine (w_is_whole2 ha).mono ?_
      rintro _ _ rfl
      cases a <;> simp [wholeB]
      rename_i i
      refine ⟨fun h1 => ⟨fun h2 => by simp [h1, h2], fun h2 => ?_⟩, fun h1 => ?_⟩
      · refine (w_is_below2 hb).mono ?_
        rintro _ _ rfl
        simp [h1, h2]
      · intro h2
        omega
  | _ => simp [b_is_lamp, lampB]
theorem w_is_net2 {x : D} (h : Dd 2 x) : wE (m_is_net [x]) fun d _ => d = .bl (isNetB x) := by
  refine run_is_net ?_
  cases x with
  | ins => cases h.1
  | tup ds =>
    simp [b_is_net, isNetB]
    refine ⟨fun h1 => ⟨fun h2 => fun h3 => by intro h4; omega, fun h2 => ?_⟩, fun h1 => by intros; omega⟩
    refine comp_map (F := fun d => .bl (lampB ds.length d)) (by simp) (by omega) (fun d hd y => ?_) (fun y => ?_)
    · simp
      refine (w_is_lamp2 (h.tup d hd)).mono ?_
      rintro _ _ rfl
      simp
    · simp only [List.zipWith_cons_cons, List.zipWith_nil_right, res_s, dAll_map, wR_ok]
      have e1 : 1 ≤ ds.length := by omega
      have e2 : ds.length ≤ 12 := by omega
      simp [e1, e2]
  | _ => simp [b_is_net, isNetB]
/-! ### refusals -/
theorem netD_inj {n n' : Net} (h : netD n = netD n') : n = n' := by
  simp only [netD, D.tup.injEq] at h
  refine (List.map_inj_right ?_).mp h
  intro a b e
  obtain ⟨a1, a2⟩ := a
  obtain ⟨b1, b2⟩ := b
  simp only [lampD, D.tup.injEq, List.cons.injEq, D.int.injEq, and_true] at e
  obtain ⟨rfl, e⟩ := e
  cases a2 with
  | none =>
    cases b2 with
    | none => rfl
    | some y => cases e
  | some x =>
    cases b2 with
    | none => cases e
    | some y =>
      have e : x = y := by
        simp at e
        omega
      rw [e]
theorem w_need_netX {x : D} {P : D → List D → Prop} {X : Str → Prop} (h : Dd 2 x) (hy : isNetB x = true → ∀ r, P .non r) (hn : isNetB x = false → X "NoNet") : wXE (m_need_net [x]) P X := by
  refine wXE_run ?_
  unfold b_need_net
  rw [wX_if]
  refine wXE.of ?_
  simp
  refine (w_is_net2 h).mono ?_
  rintro _ _ rfl
  simp only [isB]
  exact ⟨hn, fun q => hy q _⟩
theorem w_need_lampX {n : Net} {x : D} {P : D → List D → Prop} {X : Str → Prop} (h : x.dat = true) (hy : belowB x n.length = true → ∀ r, P .non r) (hn : belowB x n.length = false → X "NoLamp") : wXE (m_need_lamp [netD n, x]) P X := by
  refine wXE_run ?_
  unfold b_need_lamp
  rw [wX_if]
  refine wXE.of ?_
  have hlen : dLen [netD n] = .ok (.int n.length) := by simp [netD]
  simp [hlen]
  refine (w_is_below2 h).mono ?_
  rintro _ _ rfl
  simp only [isB]
  exact ⟨hn, fun q => hy q _⟩
theorem below_is {x : D} {m : Nat} (h : belowB x m = true) : ∃ l : Nat, x = .int (l : Nat) ∧ l < m := by
  cases x with
  | int i =>
    simp only [belowB, Bool.and_eq_true, decide_eq_true_eq] at h
    obtain ⟨l, rfl⟩ := Int.eq_ofNat_of_zero_le h.1
    exact ⟨l, rfl, by omega⟩
  | _ => cases h
/-! ### plain small data -/
def okB : Nat → D → Bool
  | _, .int i => decide (-(10 ^ 70) < i) && decide (i < 10 ^ 70)
  | _, .bl _ => true
  | _, .non => true
  | _, .str x => (PyData.str x).leavesShort 100 && decide ((PyData.str x).bulk ≤ 9)
  | 0, _ => false
  | k + 1, .tup ds => decide (ds.length ≤ 30) && ds.all (okB k)
  | k + 1, .lst ds => decide (ds.length ≤ 30) && ds.all (okB k)
  | _ + 1, .dct [] [] => true
  | _, _ => false
def wtB : Nat → Nat
  | 0 => 9
  | k + 1 => 30 * (wtB k + 1)
theorem wtB_9 : ∀ k, 9 ≤ wtB k
  | 0 => Nat.le_refl _
  | k + 1 => by
    show 9 ≤ 30 * (wtB k + 1)
    omega
theorem okB_is : ∀ {k : Nat} {x : D}, okB k x = true → Rk k (wtB k) x ∧ Dd k x
  | k, .int i, h => by
    have h : (decide (-(10 ^ 70) < i) && decide (i < 10 ^ 70)) = true := by cases k <;> exact h
    simp only [Bool.and_eq_true, decide_eq_true_eq] at h
    exact ⟨Rk_int h.1 h.2, Dd_int⟩
  | k, .bl _, _ => ⟨Rk_bl, Dd_bl⟩
  | k, .non, _ => ⟨Rk_non, Dd_non⟩
  | k, .str x, h => by
    have h : ((PyData.str x).leavesShort 100 && decide ((PyData.str x).bulk ≤ 9)) = true := by cases k <;> exact h
    simp only [Bool.and_eq_true, decide_eq_true_eq] at h
    exact ⟨Rk_str h.1 (Nat.le_trans h.2 (wtB_9 k)), Dd_str⟩
  | 0, .tup _, h => by cases h
  | 0, .lst _, h => by cases h
  | 0, .dct _ _, h => by cases h
  | k + 1, .tup ds, h => by
    have h : (decide (ds.length ≤ 30) && ds.all (okB k)) = true := h
    simp only [Bool.and_eq_true, decide_eq_true_eq, List.all_eq_true] at h
    exact ⟨(Rk.tup fun d hd => (okB_is (h.2 d hd)).1).le (Nat.le_refl _) (Nat.mul_le_mul_right _ h.1), .of_tup fun d hd => (okB_is (h.2 d hd)).2⟩
  | k + 1, .lst ds, h => by
    have h : (decide (ds.length ≤ 30) && ds.all (okB k)) = true := h
    simp only [Bool.and_eq_true, decide_eq_true_eq, List.all_eq_true] at h
    exact ⟨(Rk.lst fun d hd => (okB_is (h.2 d hd)).1).le (Nat.le_refl _) (Nat.mul_le_mul_right _ h.1), .of_lst fun d hd => (okB_is (h.2 d hd)).2⟩
  | k + 1, .dct [] [], _ => ⟨Rk_dct (by omega), Dd_dct⟩
  | k + 1, .dct (_ :: _) _, h => by cases h
  | k + 1, .dct [] (_ :: _), h => by cases h
  | 0, .ins _ _ _, h => by cases h
  | k + 1, .ins _ _ _, h => by cases h
theorem okB_dd {k : Nat} {x : D} (h : okB k x = true) : Dd k x := (okB_is h).2
theorem okB_dat {k : Nat} {x : D} (h : okB k x = true) : x.dat = true := (okB_is h).2.dat
@[simp] theorem okB_int {k : Nat} {i : Int} : okB k (.int i) = (decide (-(10 ^ 70) < i) && decide (i < 10 ^ 70)) := by cases k <;> rfl
@[simp] theorem okB_bl {k : Nat} {i : Bool} : okB k (.bl i) = true := by cases k <;> rfl
@[simp] theorem okB_non {k : Nat} : okB k .non = true := by cases k <;> rfl
@[simp] theorem okB_tup {k : Nat} {ds : List D} : okB (k + 1) (.tup ds) = (decide (ds.length ≤ 30) && ds.all (okB k)) := rfl
@[simp] theorem okB_lst {k : Nat} {ds : List D} : okB (k + 1) (.lst ds) = (decide (ds.length ≤ 30) && ds.all (okB k)) := rfl
@[simp] theorem okB_dct {k : Nat} : okB (k + 1) (.dct [] []) = true := rfl
theorem okB_lamp {n : Net} (h : NetOk n) (hb : ∀ l ∈ n, l.1 < 10 ^ 70) {l : Int × Option Nat} (hl : l ∈ n) : okB 1 (lampD l) = true := by
  have h1 := h.ln l hl
  have h2 := hb l hl
  have h12 := h.hi
  unfold lampD
  cases e : l.2 with
  | none =>
    simp
    omega
  | some x =>
    have := h.nx l hl x e
    simp
    omega
theorem okB_net {n : Net} (h : NetOk n) (hb : ∀ l ∈ n, l.1 < 10 ^ 70) : okB 2 (netD n) = true := by
  have h12 := h.hi
  unfold netD
  rw [okB_tup]
  simp only [Bool.and_eq_true, decide_eq_true_eq, List.all_eq_true, List.length_map]
  refine ⟨by omega, fun d hd => ?_⟩
  obtain ⟨l, hm, rfl⟩ := List.mem_map.mp hd
  exact okB_lamp h hb hm
theorem okB_up : ∀ {k : Nat} {x : D}, okB k x = true → okB (k + 1) x = true
  | k, .int i, h => by simpa using h
  | k, .bl _, _ => by simp
  | k, .non, _ => by simp
  | k, .str x, h => by
    have h : ((PyData.str x).leavesShort 100 && decide ((PyData.str x).bulk ≤ 9)) = true := by cases k <;> exact h
    exact h
  | 0, .tup _, h => by cases h
  | 0, .lst _, h => by cases h
  | 0, .dct _ _, h => by cases h
  | k + 1, .tup ds, h => by
    simp only [okB_tup, Bool.and_eq_true, List.all_eq_true] at h ⊢
    exact ⟨h.1, fun d hd => okB_up (h.2 d hd)⟩
  | k + 1, .lst ds, h => by
    simp only [okB_lst, Bool.and_eq_true, List.all_eq_true] at h ⊢
    exact ⟨h.1, fun d hd => okB_up (h.2 d hd)⟩
  | k + 1, .dct [] [], _ => rfl
  | k + 1, .dct (_ :: _) _, h => by cases h
  | k + 1, .dct [] (_ :: _), h => by cases h
  | 0, .ins _ _ _, h => by cases h
  | k + 1, .ins _ _ _, h => by cases h
theorem w_is_kindling2 {n : Net} {x : D} (h : Dd 1 x) : wE (m_is_kindling [netD n, x]) fun d _ => d = .bl (kindB n.length x) := by
  refine run_is_kindling ?_
  cases x with
  | ins => cases h.1
  | tup ds =>
    match ds, h with
    | [], h => simp [b_is_kindling, kindB]
    | [_], h => simp [b_is_kindling, kindB]
    | _ :: _ :: _ :: _, h => simp [b_is_kindling, kindB]; omega
    | [a, b], h =>
      have ha := h.tup a (by simp)
      have hb := h.tup b (by simp)
      simp [b_is_kindling, kindB]
      refine (w_is_whole2 ha).mono ?_
      rintro _ _ rfl
      cases a <;> simp [wholeB]
      rename_i i
      refine ⟨fun h1 => ?_, fun h1 h2 => by omega⟩
      simp only [netD, dLen_t, wR_ok, List.length_map]
      refine (w_is_below2 hb).mono ?_
      rintro _ _ rfl
      simp [h1]
  | _ => simp [b_is_kindling, kindB]
/-- first_lit's answer -/
def litD (n : Net) (b : Int) (a r : List Nat) (x : Nat) : D := if x ∈ a ++ r then .tup [.int (b + lens n ((a ++ r).take ((a ++ r).idxOf x))), if x ∈ r then .int (lens n r) else .non] else .non
theorem w_first_lit {n : Net} {b : Int} {l x : Nat} (h : NetOk n) (hl : l < n.length) : wE (m_first_lit [netD n, kD b l, .int (x : Nat)]) fun d _ => ∃ a r, Way n l a r ∧ d = litD n b a r x := by
  apply run_first_lit
  simp [b_first_lit, kD]
  refine (w_way_of h hl).mono ?_
  rintro _ _ ⟨a, r, rfl, w⟩
  have wl := w.len12 h
  have hlt := w.lt
  have e1 := dAdd_tn (show a.length + r.length ≤ 16777216 by omega)
  obtain ⟨way, hw⟩ : ∃ way, way = a ++ r := ⟨_, rfl⟩
  rw [← hw] at e1 hlt
  have wl2 : way.length ≤ 12 := by rw [hw, List.length_append]; exact wl
  simp [e1]
  refine ⟨fun hn => ⟨a, r, w, ?_⟩, fun hi => ?_⟩
  · rw [litD, ← hw, if_neg hn]
  · simp [dIdx_nD hi, ← List.map_take]
    refine (w_length_of h (fun y hy => hlt y (List.mem_of_mem_take hy)) (by rw [List.length_take]; omega) rfl).mono ?_
    rintro _ _ rfl
    simp
    refine ⟨fun hr => ?_, fun hr => ?_⟩
    · refine (w_length_of h (fun y hy => w.lt y (List.mem_append_right _ hy)) (by omega) rfl).mono ?_
      rintro _ _ rfl
      exact ⟨a, r, w, by rw [litD, ← hw, if_pos hi, if_pos hr]⟩
    · exact ⟨a, r, w, by rw [litD, ← hw, if_pos hi, if_neg hr]⟩
theorem w_lights_alone {n : Net} {b : Int} {l x : Nat} (h : NetOk n) (hl : l < n.length) (hx : x < n.length) (hb : 0 ≤ b) : wE (m_lights_alone [netD n, kD b l, .int (x : Nat)]) fun d _ => ∃ a r, Way n l a r ∧ d = litD n b a r x := by
  apply run_lights_alone
  simp [b_lights_alone]
  refine (w_need_kindling h hl hb).mono fun _ _ _ => ?_
  refine (w_need_lamp hx).mono fun _ _ _ => ?_
  exact w_first_lit h hl
theorem w_first_lit' {n : Net} {b : Int} {l x : Nat} {a r : List Nat} (h : NetOk n) (w : Way n l a r) : wE (m_first_lit [netD n, kD b l, .int (x : Nat)]) fun d _ => d = litD n b a r x :=
  (w_first_lit h w.lt0).mono fun d _ ⟨a2, r2, w2, e⟩ => by
    obtain ⟨rfl, rfl⟩ := w.unique w2
    exact e
theorem w_gap_of {n : Net} {b1 b2 : Int} {l1 l2 : Nat} {a1 r1 a2 r2 : List Nat} (h : NetOk n) (w1 : Way n l1 a1 r1) (w2 : Way n l2 a2 r2) (hb1 : 0 ≤ b1) (hb2 : 0 ≤ b2) : wE (m_gap_of [netD n, kD b1 l1, kD b2 l2]) fun d _ => d = gapD n b1 (a1 ++ r1) b2 (a2 ++ r2) := by
  apply run_gap_of
  simp only [b_gap_of, wS_seq, wS_expr, w_own, w_cons, w_nil, w_var, List.getD_cons_zero, List.getD_cons_succ, List.zipWith_cons_cons, List.zipWith_nil_right, res_s, backD_nil]
  refine (w_need_kindling h w1.lt0 hb1).mono fun _ _ _ => ?_
  refine (w_need_kindling h w2.lt0 hb2).mono fun _ _ _ => ?_
  simp [kD]
  refine (w_way_of h w1.lt0).mono ?_
  rintro _ _ ⟨a, r, rfl, w⟩
  obtain ⟨rfl, rfl⟩ := w1.unique w
  have wl := w.len12 h
  have e1 := dAdd_tn (show a1.length + r1.length ≤ 16777216 by omega)
  obtain ⟨way, hw⟩ : ∃ way, way = a1 ++ r1 := ⟨_, rfl⟩
  rw [← hw] at e1
  obtain ⟨way2, hw2⟩ : ∃ v, v = a2 ++ r2 := ⟨_, rfl⟩
  rw [← hw, ← hw2]
  simp [e1]
  refine for_inv (I := fun k r => ∃ x y, r = [netD n, kD b1 l1, kD b2 l2, .tup (a1.map nD), .tup (r1.map nD), x, y] ∧ way.find? (fun x => decide (x ∈ way2)) = (way.drop k).find? fun x => decide (x ∈ way2)) ⟨_, _, rfl, rfl⟩ ?_ ?_
  · rintro k z r hz ⟨x, y, rfl, e⟩
    rw [List.getElem?_map, Option.map_eq_some_iff] at hz
    obtain ⟨x, hz, rfl⟩ := hz
    have hxm := List.mem_of_getElem? hz
    rw [drop_at hz, List.find?_cons] at e
    simp only [tName, wR_ok, wS_seq, wS_set, w_own, w_cons, w_nil, w_var, List.set_cons_succ, List.set_cons_zero, List.getD_cons_zero, List.getD_cons_succ, List.zipWith_cons_cons, List.zipWith_nil_right, res_s, backD_nil, nD]
    refine (w_first_lit' h w2).mono ?_
    rintro _ _ rfl
    by_cases hx : x ∈ way2
    · rw [decide_eq_true hx] at e
      simp only at e
      rw [litD, ← hw2, if_pos hx]
      try simp
      refine (w_first_lit' h w1).mono ?_
      rintro _ _ rfl
      rw [litD, ← hw, if_pos hxm]
      try simp
      unfold gapD
      rw [e]
      rfl
    · rw [decide_eq_false hx] at e
      simp only at e
      rw [litD, ← hw2, if_neg hx]
      try simp
      exact e
  · rintro r ⟨x, y, rfl, e⟩
    rw [List.length_map, List.drop_length] at e
    simp only [List.find?_nil] at e
    try simp
    unfold gapD
    rw [e]
theorem w_need_kindlingX {x s : D} {P : D → List D → Prop} {X : Str → Prop} (hx : Dd 2 x) (hs : Dd 1 s) (h1 : isNetB x = false → X "NoNet") (h2 : ∀ n, x = netD n → NetOk n → kindB n.length s = false → X "NoKindlings") (h3 : ∀ n rr, x = netD n → NetOk n → kindB n.length s = true → P .non rr) : wXE (m_need_kindling [x, s]) P X := by
  cases e : isNetB x with
  | false =>
    refine wXE_run ?_
    unfold b_need_kindling
    rw [wX_seq, wX_expr]
    refine wXE_own ?_
    simp
    exact w_need_netX hx (fun z => by rw [e] at z; cases z) h1
  | true =>
    obtain ⟨n, rfl, hn⟩ := isNet_is e
    refine wXE_run ?_
    unfold b_need_kindling
    rw [wX_seq]
    refine wX_of ?_
    simp
    refine (w_need_net hn).mono fun _ _ _ => ?_
    rw [wX_if]
    refine wXE.of ?_
    simp
    refine (w_is_kindling2 hs).mono ?_
    rintro _ _ rfl
    simp only [isB]
    exact ⟨h2 n rfl hn, fun q => h3 n _ rfl hn q⟩
def nwB (q : D) : Bool := match q with
  | .int i => decide (0 ≤ i)
  | _ => false
/-- what is refused, by the door's own look at the second thing -/
structure Bad (x s : D) (g : Prop) (X : Str → Prop) : Prop where
  net : isNetB x = false → X "NoNet"
  kind : ∀ n, x = netD n → NetOk n → kindB n.length s = false → X "NoKindlings"
  else_ : ∀ n, x = netD n → NetOk n → kindB n.length s = true → g
theorem need_of {x s : D} (hx : Dd 2 x) (hs : Dd 1 s) {n : Net} (e : x = netD n) (hn : NetOk n) (hk : kindB n.length s = true) : wE (m_need_kindling [x, s]) fun _ _ => True :=
  wXE.toE (w_need_kindlingX (X := fun _ => False) hx hs (fun z => by rw [e, hn.isNet] at z; cases z) (fun n' e1 _ z => by
    cases netD_inj (e.symm.trans e1)
    rw [hk] at z
    cases z) (fun _ _ _ _ _ => trivial))
theorem need_bad {x s : D} {P : D → List D → Prop} {X : Str → Prop} {g : Prop} (hx : Dd 2 x) (hs : Dd 1 s) (h : Bad x s g X) (q : ¬ ∃ n, x = netD n ∧ NetOk n ∧ kindB n.length s = true) : wXE (m_need_kindling [x, s]) P X :=
  w_need_kindlingX hx hs h.net h.kind (fun n rr e1 e2 e3 => absurd ⟨n, e1, e2, e3⟩ q)
theorem w_place_bad {x s q : D} {P : D → List D → Prop} {X : Str → Prop} (hx : Dd 2 x) (hs : Dd 1 s) (hq : q.dat = true) (h : Bad x s (nwB q = false ∧ X "NoBeat") X) : wXE (m_place_alone [x, s, q]) P X := by
  refine wXE_run ?_
  unfold b_place_alone
  by_cases z : ∃ n, x = netD n ∧ NetOk n ∧ kindB n.length s = true
  · obtain ⟨n, e1, hn, hk⟩ := z
    obtain ⟨hq2, hX⟩ := h.else_ n e1 hn hk
    rw [wX_seq]
    refine wX_of ?_
    simp
    refine (need_of hx hs e1 hn hk).mono fun _ _ _ => ?_
    rw [wX_seq, wX_if]
    refine wXE.of ?_
    simp
    refine (w_is_whole2 hq).mono ?_
    rintro _ _ rfl
    cases q with
    | int i =>
      have : i < 0 := by simpa [nwB] using hq2
      simp [wholeB]
      exact ⟨fun _ => hX, fun z => by omega⟩
    | _ => simpa [wholeB] using hX
  · rw [wX_seq, wX_expr]
    refine wXE_own ?_
    simp
    exact need_bad hx hs h z
theorem w_lights_bad {x s q : D} {P : D → List D → Prop} {X : Str → Prop} (hx : Dd 2 x) (hs : Dd 1 s) (hq : q.dat = true) (h : Bad x s (X "NoLamp") X) (h2 : ∀ n, x = netD n → NetOk n → kindB n.length s = true → belowB q n.length = false) : wXE (m_lights_alone [x, s, q]) P X := by
  refine wXE_run ?_
  unfold b_lights_alone
  by_cases z : ∃ n, x = netD n ∧ NetOk n ∧ kindB n.length s = true
  · obtain ⟨n, e1, hn, hk⟩ := z
    have hX := h.else_ n e1 hn hk
    have hq2 := h2 n e1 hn hk
    rw [wX_seq]
    refine wX_of ?_
    simp
    refine (need_of hx hs e1 hn hk).mono fun _ _ _ => ?_
    rw [wX_seq, wX_expr]
    refine wXE_own ?_
    subst e1
    simp
    exact w_need_lampX hq (fun z => by rw [hq2] at z; cases z) (fun _ => hX)
  · rw [wX_seq, wX_expr]
    refine wXE_own ?_
    simp
    exact need_bad hx hs h z
theorem w_gap_bad {x s q : D} {P : D → List D → Prop} {X : Str → Prop} (hx : Dd 2 x) (hs : Dd 1 s) (hq : Dd 1 q) (h : Bad x s (X "NoKindlings") X) (h2 : ∀ n, x = netD n → NetOk n → kindB n.length s = true → kindB n.length q = false) : wXE (m_gap_of [x, s, q]) P X := by
  refine wXE_run ?_
  unfold b_gap_of
  by_cases z : ∃ n, x = netD n ∧ NetOk n ∧ kindB n.length s = true
  · obtain ⟨n, e1, hn, hk⟩ := z
    have hX := h.else_ n e1 hn hk
    have hq2 := h2 n e1 hn hk
    rw [wX_seq]
    refine wX_of ?_
    simp
    refine (need_of hx hs e1 hn hk).mono fun _ _ _ => ?_
    rw [wX_seq, wX_expr]
    refine wXE_own ?_
    simp
    refine w_need_kindlingX hx hq (fun z => by rw [e1, hn.isNet] at z; cases z) (fun n' e2 _ _ => hX) (fun n' rr e2 _ z => ?_)
    cases netD_inj (e1.symm.trans e2)
    rw [hq2] at z
    cases z
  · rw [wX_seq, wX_expr]
    refine wXE_own ?_
    simp
    exact need_bad hx hs h z
end K23
set_option exponentiation.threshold 1000
namespace K23
open PySem EB
open L2 hiding wE
theorem word_net : outE (m__law_kind [.ins "NoNet" exMark []]) = some (.str (PySem.Str.ofString "net")) := by kernel_rfl
theorem word_kind : outE (m__law_kind [.ins "NoKindlings" exMark []]) = some (.str (PySem.Str.ofString "kindling")) := by kernel_rfl
theorem word_beat : outE (m__law_kind [.ins "NoBeat" exMark []]) = some (.str (PySem.Str.ofString "beat")) := by kernel_rfl
theorem word_lamp : outE (m__law_kind [.ins "NoLamp" exMark []]) = some (.str (PySem.Str.ofString "lamp")) := by kernel_rfl
def netS : D := .str (PySem.Str.ofString "net")
def kindS : D := .str (PySem.Str.ofString "kindling")
def beatS : D := .str (PySem.Str.ofString "beat")
def lampS : D := .str (PySem.Str.ofString "lamp")
inductive Wd : Str → D → Prop
  | net : Wd "NoNet" netS
  | kind : Wd "NoKindlings" kindS
  | beat : Wd "NoBeat" beatS
  | lamp : Wd "NoLamp" lampS
theorem w_word {c : Str} {w : D} (h : Wd c w) : wE (m__law_kind [.ins c exMark []]) fun d _ => d = w := by
  cases h with
  | net => exact wE_out word_net
  | kind => exact wE_out word_kind
  | beat => exact wE_out word_beat
  | lamp => exact wE_out word_lamp
theorem Wd.mem {c : Str} {w : D} (h : Wd c w) : (["NoBeat", "NoKindlings", "NoLamp", "NoNet"] : List Str).contains c = true := by
  cases h <;> decide
/-- the call that a door is -/
def callE (door : Nat) (x s q : D) : R (D × List D) := if door = 0 then m_place_alone [x, s, q] else if door = 1 then m_lights_alone [x, s, q] else m_gap_of [x, s, q]
theorem w_told {x s q : D} {door : Nat} {T : D → Prop} {X : Str → Prop} (hd : door < 3) (h : wXE (callE door x s q) (fun d _ => T (.lst [d])) X) (hX : ∀ c, X c → ∃ w, Wd c w ∧ T w) : wE (m__law_told [.int (door : Nat), x, s, q]) fun d _ => T d := by
  obtain ⟨Q, hQ⟩ : ∃ Q : D → List D → Prop, ∀ d out, Q d out = T d := ⟨_, fun _ _ => rfl⟩
  refine wE.mono (P := Q) ?_ (fun d out hq => by rw [hQ] at hq; exact hq)
  refine run__law_told ?_
  unfold b__law_told
  rw [wS_try]
  obtain ⟨XX, hXX⟩ : ∃ XX : Str → Prop, ∀ c', XX c' = ((["NoBeat", "NoKindlings", "NoLamp", "NoNet"] : List Str).contains c' = true ∧ wS (sRet (fOwn m__law_kind [Sh.s] [] (fCons (fVar 4) fNil)) ([.int (door : Nat), x, s, q, .non].set 4 (.ins c' exMark []))) (fun r => Q .non r) Q (fun _ => False) (fun _ => False)) := ⟨_, fun _ => rfl⟩
  simp only [← hXX]
  have hc : ∀ c, X c → XX c := fun c h => by
    obtain ⟨w, hw, ht⟩ := hX c h
    rw [hXX]
    refine ⟨hw.mem, ?_⟩
    simp
    refine (w_word hw).mono ?_
    rintro _ _ rfl
    rw [hQ]
    exact ht
  rw [wX_if]
  refine wXE.of ?_
  simp
  refine ⟨fun z => ?_, fun z => ?_⟩
  · subst z
    rw [wX_ret]
    refine wXE_lst1 (wXE_own ?_)
    simp
    have h : wXE (m_place_alone [x, s, q]) (fun d _ => T (.lst [d])) X := h
    exact h.mono (fun d r e => by rw [hQ]; exact e) hc
  · rw [wX_if]
    refine wXE.of ?_
    simp
    refine ⟨fun z2 => ?_, fun z2 => ?_⟩
    · have z3 : door = 1 := by omega
      subst z3
      rw [wX_ret]
      refine wXE_lst1 (wXE_own ?_)
      simp
      have h : wXE (m_lights_alone [x, s, q]) (fun d _ => T (.lst [d])) X := h
      exact h.mono (fun d r e => by rw [hQ]; exact e) hc
    · have z3 : door = 2 := by omega
      subst z3
      rw [wX_ret]
      refine wXE_lst1 (wXE_own ?_)
      simp
      have h : wXE (m_gap_of [x, s, q]) (fun d _ => T (.lst [d])) X := h
      exact h.mono (fun d r e => by rw [hQ]; exact e) hc
theorem w_named {x s q : D} {door : Nat} {T : D → Prop} (hd : door < 3) (h : wE (callE door x s q) (fun d _ => T (.lst [d]))) : wE (m__law_named [.int (door : Nat), x, s, q]) fun d _ => T d := by
  obtain ⟨Q, hQ⟩ : ∃ Q : D → List D → Prop, ∀ d out, Q d out = T d := ⟨_, fun _ _ => rfl⟩
  refine wE.mono (P := Q) ?_ (fun d out hq => by rw [hQ] at hq; exact hq)
  refine run__law_named ?_
  unfold b__law_named
  with_reducible refine wS_cut ?_
  intro K hK
  simp
  refine ⟨fun z => ?_, fun z => ?_⟩
  · subst z
    simp [pick]
    have h : wE (m_place_alone [x, s, q]) (fun d _ => T (.lst [d])) := h
    exact h.mono (fun d r e => by rw [hQ]; exact e)
  · rw [hK]
    clear hK K
    with_reducible refine wS_cut ?_
    intro K hK
    simp
    refine ⟨fun z2 => ?_, fun z2 => ?_⟩
    · have z3 : door = 1 := by omega
      subst z3
      simp [pick]
      have h : wE (m_lights_alone [x, s, q]) (fun d _ => T (.lst [d])) := h
      exact h.mono (fun d r e => by rw [hQ]; exact e)
    · have z3 : door = 2 := by omega
      subst z3
      rw [hK]
      simp [pick]
      have h : wE (m_gap_of [x, s, q]) (fun d _ => T (.lst [d])) := h
      exact h.mono (fun d r e => by rw [hQ]; exact e)
/-- the second thing as it may be -/
def SecOk (n : Net) (door : Nat) (q : D) : Prop :=
  (door = 0 ∧ ∃ i : Int, q = .int i ∧ 0 ≤ i ∧ i < 10 ^ 60) ∨ (door = 1 ∧ ∃ l : Nat, q = .int (l : Nat) ∧ l < n.length) ∨ (door = 2 ∧ ∃ (b : Int) (l : Nat), q = kD b l ∧ 0 ≤ b ∧ b < 10 ^ 60 ∧ l < n.length)
/-- as it may not -/
def SecBad (n : Net) (door : Nat) (q : D) : Prop :=
  okB 2 q = true ∧ ((door = 0 ∧ nwB q = false) ∨ (door = 1 ∧ belowB q n.length = false) ∨ (door = 2 ∧ kindB n.length q = false))
def secS (door : Nat) : D := if door = 0 then beatS else if door = 1 then lampS else kindS
theorem okB_kD {b : Int} {l : Nat} (h1 : 0 ≤ b) (h2 : b < 10 ^ 60) (hl : l < 100) {k : Nat} : okB (k + 1) (kD b l) = true := by
  unfold kD
  simp
  omega
theorem kindB_kD {n : Net} {b : Int} {l : Nat} (h1 : 0 ≤ b) (hl : l < n.length) : kindB n.length (kD b l) = true := by
  unfold kD
  simp [kindB, belowB, h1]
  omega
/-- what a door answers where all is right: something plain -/
theorem w_fine {n : Net} {door : Nat} {b : Int} {l : Nat} {q : D} (hn : NetOk n) (hb : 0 ≤ b) (hl : l < n.length) (hq : SecOk n door q) : wE (callE door (netD n) (kD b l) q) fun d _ => PlN 10 d := by
  rcases hq with ⟨rfl, i, rfl, i0, _⟩ | ⟨rfl, x, rfl, hx⟩ | ⟨rfl, b2, l2, rfl, hb2, _, hl2⟩
  · refine (w_place_alone hn hl hb i0).mono ?_
    rintro d _ (⟨_, rfl⟩ | ⟨_, a, r, w, rfl⟩)
    · simp
    · cases alone n a r (i - b) with
      | none => simp [spotD]
      | some p => simp [spotD]
  · refine (w_lights_alone hn hl hx hb).mono ?_
    rintro d _ ⟨a, r, w, rfl⟩
    unfold litD
    split
    · split <;> simp
    · simp
  · obtain ⟨a1, r1, w1⟩ := way_ex hn hl
    obtain ⟨a2, r2, w2⟩ := way_ex hn hl2
    refine (w_gap_of hn w1 w2 hb hb2).mono ?_
    rintro d _ rfl
    unfold gapD
    split <;> simp
end K23
set_option exponentiation.threshold 1000
namespace K23
open PySem EB
open L2 hiding wE
theorem dAdd_ll {xs ys : List D} (h : xs.length + ys.length ≤ 16777216) : dAdd (.lst xs) (.lst ys) = .ok (.lst (xs ++ ys)) := by
  unfold dAdd
  simp only
  rw [if_pos h]
theorem dAdd_tt {xs ys : List D} (h : xs.length + ys.length ≤ 16777216) : dAdd (.tup xs) (.tup ys) = .ok (.tup (xs ++ ys)) := by
  unfold dAdd
  simp only
  rw [if_pos h]
theorem notNet {ds : List D} {d : D} (h : d ∈ ds) (hd : lampB ds.length d = false) : isNetB (.tup ds) = false := by
  simp only [isNetB, Bool.and_eq_false_iff, List.all_eq_false]
  exact .inr ⟨d, h, by rw [hd]; simp⟩
inductive Fits (n : Net) (door : Nat) : D → D → D → List D → Prop
  | fine {b : Int} {l : Nat} {q : D} : 0 ≤ b → b < 10 ^ 60 → l < n.length → SecOk n door q → Fits n door (netD n) (kD b l) q []
  | second {b : Int} {l : Nat} {q : D} : 0 ≤ b → b < 10 ^ 60 → l < n.length → SecBad n door q → Fits n door (netD n) (kD b l) q [secS door]
  | first {s q : D} : okB 2 s = true → kindB n.length s = false → okB 2 q = true → Fits n door (netD n) s q [kindS]
  | net {x s q : D} : okB 2 x = true → isNetB x = false → okB 2 s = true → okB 2 q = true → Fits n door x s q [netS]
theorem SecOk.ok {n : Net} {door : Nat} {q : D} (hn : NetOk n) (h : SecOk n door q) : okB 2 q = true := by
  have h12 := hn.hi
  rcases h with ⟨_, i, rfl, h1, h2⟩ | ⟨_, l, rfl, h1⟩ | ⟨_, b, l, rfl, h1, h2, h3⟩
  · simp
    omega
  · simp
    omega
  · exact okB_kD h1 h2 (by omega)
theorem Fits.ok {n : Net} {door : Nat} {x s q : D} {dues : List D} (hn : NetOk n) (hb : ∀ l ∈ n, l.1 < 10 ^ 70) (h : Fits n door x s q dues) : okB 2 x = true ∧ okB 2 s = true ∧ okB 2 q = true := by
  have h12 := hn.hi
  cases h with
  | fine h1 h2 h3 h4 => exact ⟨okB_net hn hb, okB_kD h1 h2 (by omega), h4.ok hn⟩
  | second h1 h2 h3 h4 => exact ⟨okB_net hn hb, okB_kD h1 h2 (by omega), h4.1⟩
  | first h1 h2 h3 => exact ⟨okB_net hn hb, h1, h3⟩
  | net h1 h2 h3 h4 => exact ⟨h1, h3, h4⟩
theorem w_told_fits {n : Net} {door : Nat} {x s q : D} {dues : List D} (hn : NetOk n) (hb : ∀ l ∈ n, l.1 < 10 ^ 70) (hd : door < 3) (h : Fits n door x s q dues) : wE (m__law_told [.int (door : Nat), x, s, q]) fun d _ =>
    (dues = [] ∧ (∃ v, d = .lst [v] ∧ PlN 10 v) ∧ wE (m__law_named [.int (door : Nat), x, s, q]) fun d' _ => d' = d) ∨ (dues = [d] ∧ ∃ w, Wd w d) := by
  have ok := h.ok hn hb
  have hx := okB_dd ok.1
  have hs : Dd 1 s := (okB_dd ok.2.1).le
  have hq : Dd 1 q := (okB_dd ok.2.2).le
  cases h with
  | @fine b l q h1 h2 h3 h4 =>
    obtain ⟨v, out, e, hp⟩ := wE.iff.mp (w_fine (door := door) hn h1 h3 h4)
    refine (w_told (T := fun d => d = .lst [v]) (X := fun _ => False) hd ?_ (fun _ z => z.elim)).mono ?_
    · unfold wXE
      rw [e]
    · rintro _ _ rfl
      refine .inl ⟨rfl, ⟨v, rfl, hp⟩, w_named hd ?_⟩
      unfold wE
      rw [e]
  | @second b l q h1 h2 h3 h4 =>
    have hk := kindB_kD (b := b) h1 h3
    have one : ∀ (c : Str) (w : D), Wd c w → w = secS door → wXE (callE door (netD n) (kD b l) q) (fun d _ => (fun d => d = w) (.lst [d])) (fun c' => c' = c) → wE (m__law_told [.int (door : Nat), netD n, kD b l, q]) fun d _ => (([secS door] : List D) = [] ∧ (∃ v, d = .lst [v] ∧ PlN 10 v) ∧ wE (m__law_named [.int (door : Nat), netD n, kD b l, q]) fun d' _ => d' = d) ∨ ([secS door] = [d] ∧ ∃ w, Wd w d) := fun c w hw e h => by
      refine (w_told (T := fun d => d = w) hd h (fun c' z => by subst z; exact ⟨w, hw, rfl⟩)).mono ?_
      rintro _ _ rfl
      exact .inr ⟨by rw [e], c, hw⟩
    rcases h4.2 with ⟨rfl, z⟩ | ⟨rfl, z⟩ | ⟨rfl, z⟩
    · exact one "NoBeat" beatS .beat rfl (w_place_bad hx hs hq.dat ⟨fun z => (by rw [hn.isNet] at z; cases z), fun n' e _ z => (by cases netD_inj e; rw [hk] at z; cases z), fun _ _ _ _ => ⟨z, rfl⟩⟩)
    · exact one "NoLamp" lampS .lamp rfl (w_lights_bad hx hs hq.dat ⟨fun z => (by rw [hn.isNet] at z; cases z), fun n' e _ z => (by cases netD_inj e; rw [hk] at z; cases z), fun _ _ _ _ => rfl⟩ (fun n' e _ _ => (by cases netD_inj e; exact z)))
    · exact one "NoKindlings" kindS .kind rfl (w_gap_bad hx hs hq ⟨fun z => (by rw [hn.isNet] at z; cases z), fun n' e _ z => rfl, fun _ _ _ _ => rfl⟩ (fun n' e _ _ => (by cases netD_inj e; exact z)))
  | @first s q h1 h2 h3 =>
    have bd : ∀ g : Prop, Bad (netD n) s g (fun c => c = "NoKindlings") := fun g => ⟨fun z => (by rw [hn.isNet] at z; cases z), fun _ _ _ _ => rfl, fun n' e _ z => (by cases netD_inj e; rw [h2] at z; cases z)⟩
    have no : ∀ n', netD n = netD n' → kindB n'.length s = true → False := fun n' e z => by
      cases netD_inj e
      rw [h2] at z
      cases z
    refine (w_told (T := fun d => d = kindS) (X := fun c => c = "NoKindlings") hd ?_ (fun c' z => by subst z; exact ⟨_, .kind, rfl⟩)).mono ?_
    · unfold callE
      split
      · exact w_place_bad hx hs hq.dat (bd _)
      · split
        · exact w_lights_bad hx hs hq.dat (bd _) (fun n' e _ z => (no n' e z).elim)
        · exact w_gap_bad hx hs hq (bd _) (fun n' e _ z => (no n' e z).elim)
    · rintro _ _ rfl
      exact .inr ⟨rfl, _, .kind⟩
  | @net x s q h1 h2 h3 h4 =>
    have no : ∀ n', x = netD n' → NetOk n' → False := fun n' e z => by
      rw [e, z.isNet] at h2
      cases h2
    have bd : ∀ g : Prop, Bad x s g (fun c => c = "NoNet") := fun g => ⟨fun _ => rfl, fun n' e z _ => (no n' e z).elim, fun n' e z _ => (no n' e z).elim⟩
    refine (w_told (T := fun d => d = netS) (X := fun c => c = "NoNet") hd ?_ (fun c' z => by subst z; exact ⟨_, .net, rfl⟩)).mono ?_
    · unfold callE
      split
      · exact w_place_bad hx hs hq.dat (bd _)
      · split
        · exact w_lights_bad hx hs hq.dat (bd _) (fun n' e z _ => (no n' e z).elim)
        · exact w_gap_bad hx hs hq (bd _) (fun n' e z _ => (no n' e z).elim)
    · rintro _ _ rfl
      exact .inr ⟨rfl, _, .net⟩
theorem w_no_kindling {C : Nat} {j : D} {n : Net} (hj : JarD C j) (hC : C ≤ 2 ^ 50) (h : NetOk n) : wE (m__law_no_kindling [j, netD n]) fun d out => (okB 2 d = true ∧ kindB n.length d = false) ∧ JarD (C + 1) (out[0]?.getD .non) := by
  obtain ⟨Q, hQ⟩ : ∃ Q : D → List D → Prop, ∀ d out, Q d out = ((okB 2 d = true ∧ kindB n.length d = false) ∧ JarD (C + 1) (out[0]?.getD .non)) := ⟨_, fun _ _ => rfl⟩
  simp only [← hQ]
  have h12 := h.hi
  have hlo := h.lo
  have hlen : dLen [netD n] = .ok (.int n.length) := by simp [netD]
  refine run__law_no_kindling ?_
  unfold b__law_no_kindling
  generalize netD n = N at hlen ⊢
  with_reducible refine wS_cut ?_
  intro K hK
  simp [hlen]
  rw [hK]
  clear hK K
  obtain ⟨s1, hs1⟩ : ∃ s1, s1 = [D.non, D.int 0, D.str (Str.ofString "0"), D.tup [], D.lst [], D.dct [] [], D.tup [D.int 0], D.lst [D.int 0, D.int 0], D.tup [D.int 0, D.int 0, D.int 0], D.tup [D.int (-1), D.int 0], D.tup [D.int 0, D.int (-1)], D.tup [D.int 0, D.int n.length], D.tup [D.bl true, D.int 0], D.tup [D.int 0, D.bl false]] := ⟨_, rfl⟩
  have hN1 : s1.length = 14 ∧ ∀ d ∈ s1, okB 2 d = true ∧ kindB n.length d = false := by
    rw [hs1]
    refine ⟨rfl, fun d hd => ?_⟩
    simp at hd
    rcases hd with rfl | rfl | rfl | rfl | rfl | rfl | rfl | rfl | rfl | rfl | rfl | rfl | rfl | rfl
    · exact ⟨rfl, rfl⟩
    · exact ⟨by decide, rfl⟩
    · exact ⟨by decide +kernel, rfl⟩
    · exact ⟨rfl, rfl⟩
    · exact ⟨rfl, rfl⟩
    · exact ⟨rfl, rfl⟩
    · exact ⟨by decide, rfl⟩
    · exact ⟨by decide, rfl⟩
    · exact ⟨by decide, rfl⟩
    · exact ⟨by decide, rfl⟩
    · exact ⟨by decide, rfl⟩
    · refine ⟨?_, ?_⟩
      · simp
        omega
      · simp [kindB, belowB]
    · exact ⟨by decide, rfl⟩
    · exact ⟨by decide, rfl⟩
  rw [← hs1]
  clear hs1
  have t1 := fun ys (hy : ys.length ≤ 20) => dAdd_ll (xs := s1) (ys := ys) (by omega)
  with_reducible refine wS_cut ?_
  intro K hK
  simp [t1]
  rw [hK]
  clear hK K
  obtain ⟨s2, hs2⟩ : ∃ s2, s2 = s1 ++ [D.tup [D.int 0, D.non], D.tup [D.str (Str.ofString "0"), D.int 0], D.tup [D.non, D.int 0], D.tup [D.tup [D.int 0, D.int 0]], D.tup [D.int 0, D.tup [D.int 0]], D.lst [D.tup [D.int 0, D.int 0]], D.tup [D.int (-100000000000000000000000000000000000000000000000000000000000), D.int 0], D.tup [D.int 0, D.int 100000000000000000000000000000000000000000000000000000000000]] := ⟨_, rfl⟩
  have hN2 : s2.length = 22 ∧ ∀ d ∈ s2, okB 2 d = true ∧ kindB n.length d = false := by
    rw [hs2]
    refine ⟨by simp; omega, fun d hd => ?_⟩
    rcases List.mem_append.mp hd with hd | hd
    · exact hN1.2 d hd
    simp at hd
    rcases hd with rfl | rfl | rfl | rfl | rfl | rfl | rfl | rfl
    · exact ⟨by decide, rfl⟩
    · exact ⟨by decide +kernel, rfl⟩
    · exact ⟨by decide, rfl⟩
    · exact ⟨by decide, rfl⟩
    · exact ⟨by decide, rfl⟩
    · exact ⟨by decide, rfl⟩
    · exact ⟨by decide, rfl⟩
    · refine ⟨by decide, ?_⟩
      simp [kindB, belowB]
      omega
  rw [← hs2]
  clear hs2
  simp
  rw [show (s2.length : Int) = ((22 : Nat) : Int) by rw [hN2.1]]
  refine (w_pull hj (by omega) (.of (by omega) (by omega))).mono ?_
  rintro _ o1 ⟨v1, rfl, a1, b1, j1⟩
  obtain ⟨x, hx, ex⟩ := dIx_in (d := .lst s2) rfl a1 (by omega)
  simp [ex]
  rw [hQ]
  exact ⟨hN2.2 x hx, j1⟩
theorem w_no_number {C : Nat} {j : D} {most : Nat} (hj : JarD C j) (hC : C ≤ 2 ^ 50) (hm : most ≤ 12) : wE (m__law_no_number [j, .int most]) fun d out => (okB 2 d = true ∧ (nwB d = false ∨ (d = .int most ∧ 0 < most))) ∧ JarD (C + 1) (out[0]?.getD .non) := by
  obtain ⟨Q, hQ⟩ : ∃ Q : D → List D → Prop, ∀ d out, Q d out = ((okB 2 d = true ∧ (nwB d = false ∨ (d = .int most ∧ 0 < most))) ∧ JarD (C + 1) (out[0]?.getD .non)) := ⟨_, fun _ _ => rfl⟩
  simp only [← hQ]
  refine run__law_no_number ?_
  unfold b__law_no_number
  obtain ⟨s1, hs1⟩ : ∃ s1, s1 = [D.non, D.bl true, D.bl false, D.str (Str.ofString "0"), D.str (Str.ofString ""), D.lst [], D.lst [D.int 0], D.tup [D.int 0], D.dct [] [], D.int (-1), D.int (-100000000000000000000000000000000000000000000000000000000000)] := ⟨_, rfl⟩
  have hN1 : s1.length = 11 ∧ ∀ d ∈ s1, okB 2 d = true ∧ nwB d = false := by
    rw [hs1]
    refine ⟨rfl, fun d hd => ?_⟩
    simp at hd
    rcases hd with rfl | rfl | rfl | rfl | rfl | rfl | rfl | rfl | rfl | rfl | rfl
    · exact ⟨rfl, rfl⟩
    · exact ⟨rfl, rfl⟩
    · exact ⟨rfl, rfl⟩
    · exact ⟨by decide +kernel, rfl⟩
    · exact ⟨by decide +kernel, rfl⟩
    · exact ⟨rfl, rfl⟩
    · exact ⟨by decide, rfl⟩
    · exact ⟨by decide, rfl⟩
    · exact ⟨rfl, rfl⟩
    · exact ⟨by decide, rfl⟩
    · exact ⟨by decide, rfl⟩
  have t1 := fun ys (hy : ys.length ≤ 20) => dAdd_ll (xs := s1) (ys := ys) (by omega)
  obtain ⟨k, hk, h01⟩ : ∃ k : Nat, (if 0 < most then 1 else 0 : Int) = (k : Nat) ∧ (k = 0 ∨ k = 1 ∧ 0 < most) := by
    by_cases z : 0 < most
    · exact ⟨1, by rw [if_pos z]; rfl, .inr ⟨rfl, by omega⟩⟩
    · exact ⟨0, by rw [if_neg z]; rfl, .inl rfl⟩
  obtain ⟨s2, hs2⟩ : ∃ s2, s2 = s1 ++ (List.replicate k (D.int most)) := ⟨_, rfl⟩
  have hl2 : (List.replicate k (D.int most)).length = k := by simp
  have hN2 : s2.length = 11 + k ∧ ∀ d ∈ s2, okB 2 d = true ∧ (nwB d = false ∨ (d = .int most ∧ 0 < most)) := by
    rw [hs2]
    refine ⟨by rw [List.length_append, hN1.1, hl2], fun d hd => ?_⟩
    rcases List.mem_append.mp hd with hd | hd
    · exact ⟨(hN1.2 d hd).1, .inl (hN1.2 d hd).2⟩
    · rcases h01 with rfl | ⟨rfl, z⟩
      · simp at hd
      · simp at hd
        subst hd
        refine ⟨?_, .inr ⟨rfl, z⟩⟩
        simp
        omega
  have t2 := t1 (List.replicate k (D.int most)) (by rw [hl2]; omega)
  rw [← hs2] at t2
  with_reducible refine wS_cut ?_
  intro K hK
  simp [← hs1]
  rw [hk]
  refine ⟨⟨by omega, by omega, by omega⟩, ?_⟩
  rw [Int.toNat_natCast, t2, wR_ok, hK]
  clear hK K
  simp
  rw [show (s2.length : Int) = ((11 + k : Nat) : Int) by rw [hN2.1]]
  refine (w_pull hj (by omega) (.of (by omega) (by omega))).mono ?_
  rintro _ o1 ⟨v1, rfl, a1, b1, j1⟩
  obtain ⟨x, hx, ex⟩ := dIx_in (d := .lst s2) rfl a1 (by omega)
  simp [ex]
  rw [hQ]
  exact ⟨hN2.2 x hx, j1⟩
theorem w_no_net {C : Nat} {j : D} {n : Net} (hj : JarD C j) (hC : C ≤ 2 ^ 50) (h : NetOk n) (hb : ∀ l ∈ n, l.1 < 10 ^ 70) : wE (m__law_no_net [j, netD n]) fun d out => (okB 2 d = true ∧ isNetB d = false) ∧ JarD (C + 1) (out[0]?.getD .non) := by
  obtain ⟨Q, hQ⟩ : ∃ Q : D → List D → Prop, ∀ d out, Q d out = ((okB 2 d = true ∧ isNetB d = false) ∧ JarD (C + 1) (out[0]?.getD .non)) := ⟨_, fun _ _ => rfl⟩
  simp only [← hQ]
  have hlo := h.lo
  have hhi := h.hi
  obtain ⟨ms, hms, hml, hmo⟩ : ∃ ms, netD n = .tup ms ∧ ms.length = n.length ∧ ∀ d ∈ ms, okB 1 d = true := ⟨_, rfl, by simp, fun d hd => by
    obtain ⟨l, hm, rfl⟩ := List.mem_map.mp hd
    exact okB_lamp h hb hm⟩
  rw [hms]
  refine run__law_no_net ?_
  unfold b__law_no_net
  obtain ⟨twelve, h12⟩ : ∃ ts, ts = List.replicate 12 (D.tup [D.int 1, D.int 0]) := ⟨_, rfl⟩
  have h12l : twelve.length = 12 := by rw [h12]; rfl
  have h12o : ∀ d ∈ twelve, okB 1 d = true := fun d hd => by
    rw [h12] at hd
    rw [List.eq_of_mem_replicate hd]
    decide
  with_reducible refine wS_cut ?_
  intro K hK
  simp [-List.reduceReplicate]
  rw [← h12, dAdd_tt (by omega), wR_ok, dAdd_tt (by simp; omega), wR_ok]
  rw [hK]
  clear hK K
  obtain ⟨s1, hs1⟩ : ∃ s1, s1 = [D.non, D.int 1, D.str (Str.ofString "net"), D.tup [], D.lst [], D.lst ms, D.tup (ms ++ twelve), D.tup (ms ++ [D.non]), D.tup [D.tup [D.int 0, D.non]], D.tup [D.tup [D.int 1, D.int 1]], D.dct [] []] := ⟨_, rfl⟩
  have hN1 : s1.length = 11 ∧ ∀ d ∈ s1, okB 2 d = true ∧ isNetB d = false := by
    rw [hs1]
    refine ⟨rfl, fun d hd => ?_⟩
    simp only [List.mem_cons, List.not_mem_nil, or_false] at hd
    rcases hd with rfl | rfl | rfl | rfl | rfl | rfl | rfl | rfl | rfl | rfl | rfl
    · exact ⟨rfl, rfl⟩
    · exact ⟨by decide, rfl⟩
    · exact ⟨by decide +kernel, rfl⟩
    · exact ⟨rfl, rfl⟩
    · exact ⟨rfl, rfl⟩
    · refine ⟨?_, rfl⟩
      simp only [okB_lst, Bool.and_eq_true, decide_eq_true_eq, List.all_eq_true]
      exact ⟨by omega, hmo⟩
    · refine ⟨?_, ?_⟩
      · simp only [okB_tup, Bool.and_eq_true, decide_eq_true_eq, List.all_eq_true, List.length_append]
        refine ⟨by omega, fun d hd => ?_⟩
        rcases List.mem_append.mp hd with hd | hd
        · exact hmo d hd
        · exact h12o d hd
      · simp only [isNetB, Bool.and_eq_false_iff, List.length_append]
        exact .inl (.inr (decide_eq_false (by omega)))
    · refine ⟨?_, notNet (d := .non) (List.mem_append.mpr (.inr List.mem_cons_self)) rfl⟩
      simp only [okB_tup, Bool.and_eq_true, decide_eq_true_eq, List.all_eq_true, List.length_append]
      refine ⟨by simp; omega, fun d hd => ?_⟩
      rcases List.mem_append.mp hd with hd | hd
      · exact hmo d hd
      · simp at hd
        subst hd
        simp
    · exact ⟨by decide, rfl⟩
    · exact ⟨by decide, rfl⟩
    · exact ⟨rfl, rfl⟩
  rw [← hs1]
  clear hs1
  have t1 := fun ys (hy : ys.length ≤ 20) => dAdd_ll (xs := s1) (ys := ys) (by omega)
  obtain ⟨m1, hm1⟩ : ∃ m1, m1 = D.tup (ms ++ [D.tup [D.int 1]]) := ⟨_, rfl⟩
  obtain ⟨s2, hs2⟩ : ∃ s2, s2 = s1 ++ [D.tup [D.tup [D.bl true, D.int 0]], D.tup [D.tup [D.int 1, D.bl true]], D.tup [D.tup [D.int 1, D.int (-1)]], D.tup [D.lst [D.int 1, D.int 0]], m1] := ⟨_, rfl⟩
  have hN2 : s2.length = 16 ∧ ∀ d ∈ s2, okB 2 d = true ∧ isNetB d = false := by
    rw [hs2]
    refine ⟨by simp; omega, fun d hd => ?_⟩
    rcases List.mem_append.mp hd with hd | hd
    · exact hN1.2 d hd
    simp only [List.mem_cons, List.not_mem_nil, or_false] at hd
    rcases hd with rfl | rfl | rfl | rfl | rfl
    · exact ⟨by decide, rfl⟩
    · exact ⟨by decide, rfl⟩
    · exact ⟨by decide, rfl⟩
    · exact ⟨by decide, rfl⟩
    · rw [hm1]
      refine ⟨?_, notNet (d := .tup [.int 1]) (List.mem_append.mpr (.inr List.mem_cons_self)) rfl⟩
      simp only [okB_tup, Bool.and_eq_true, decide_eq_true_eq, List.all_eq_true, List.length_append]
      refine ⟨by simp; omega, fun d hd => ?_⟩
      rcases List.mem_append.mp hd with hd | hd
      · exact hmo d hd
      · simp at hd
        subst hd
        decide
  simp
  rw [dAdd_tt (by simp; omega), wR_ok, ← hm1, t1 _ (by simp), wR_ok, ← hs2]
  refine (w_pull hj (by omega) (.of (by omega) (by omega))).mono ?_
  rintro _ o1 ⟨v1, rfl, a1, b1, j1⟩
  obtain ⟨x, hx, ex⟩ := dIx_in (d := .lst s2) rfl a1 (by omega)
  simp [ex]
  rw [hQ]
  exact ⟨hN2.2 x hx, j1⟩
end K23
set_option exponentiation.threshold 1000
namespace K23
open PySem EB
open L2 hiding wE
theorem pl_word {k : Nat} {c : Str} {w : D} (h : Wd c w) : PlN k w := by
  cases h
  · unfold netS; rw [PlN_str]; decide +kernel
  · unfold kindS; rw [PlN_str]; decide +kernel
  · unfold beatS; rw [PlN_str]; decide +kernel
  · unfold lampS; rw [PlN_str]; decide +kernel
theorem dNeA_word {c : Str} {w : D} (h : Wd c w) : dNeA w w = .ok (.bl false) := by
  cases h
  · unfold netS; simp
  · unfold kindS; simp
  · unfold beatS; simp
  · unfold lampS; simp
theorem pl_lst1 {v : D} (h : PlN 10 v) : PlN 64 (.lst [v]) := by
  simp
  exact h.le (by omega)
theorem w_right {C : Nat} {j : D} (hj : JarD C j) (hC : C ≤ 2 ^ 40) : wE (m__law_right [j]) fun d _ => d = .bl true := by
  refine run__law_right ?_
  unfold b__law_right
  with_reducible refine wS_cut ?_
  intro K hK
  simp
  refine (w_netB (wide := 30) hj (by omega) (.of (by omega) (by omega)) (by omega)).mono ?_
  rintro _ o1 ⟨n, rfl, hn, hb9, j1⟩
  rw [hK]
  clear hK K
  have hlo := hn.lo
  have hhi := hn.hi
  have hlen : dLen [netD n] = .ok (.int n.length) := by simp [netD]
  have hnk := fun {C : Nat} {j : D} (hj : JarD C j) (hC : C ≤ 2 ^ 50) => w_no_kindling hj hC hn
  have hnn := fun {C : Nat} {j : D} (hj : JarD C j) (hC : C ≤ 2 ^ 50) => w_no_net hj hC hn hb9
  have fine := fun {door : Nat} {b : Int} {l : Nat} {q : D} (h1 : 0 ≤ b) (h2 : b < 10 ^ 60) (h3 : l < n.length) (h4 : SecOk n door q) => Fits.fine (n := n) (door := door) h1 h2 h3 h4
  have second := fun {door : Nat} {b : Int} {l : Nat} {q : D} (h1 : 0 ≤ b) (h2 : b < 10 ^ 60) (h3 : l < n.length) (h4 : SecBad n door q) => Fits.second (n := n) (door := door) h1 h2 h3 h4
  have first := fun {door : Nat} {s q : D} (h1 : okB 2 s = true) (h2 : kindB n.length s = false) (h3 : okB 2 q = true) => Fits.first (n := n) (door := door) h1 h2 h3
  obtain ⟨N, hN⟩ : ∃ N, N = netD n := ⟨_, rfl⟩
  rw [← hN] at hlen hnk hnn fine second first ⊢
  generalize o1[0]?.getD .non = jr1 at j1 ⊢
  with_reducible refine wS_cut ?_
  intro K hK
  simp
  refine forR_inv (n := 12) (I := fun k r => ∃ jr c d e f g h, r = [jr, N, c, d, e, f, g, h] ∧ JarD (C + 41 + 20 * k) jr) ⟨_, _, _, _, _, _, _, rfl, j1⟩ ?_ ?_
  rotate_left
  · rintro r ⟨jr, c, d, e, f, g, h, rfl, _⟩
    rw [hK]
    simp
  · rintro turn r ht ⟨jr, c0, d0, e0, f0, g0, h0, rfl, hjr⟩
    obtain ⟨G, hG⟩ : ∃ G : List D → Prop, ∀ r, G r = ∃ jr c d e f g h, r = [jr, N, c, d, e, f, g, h] ∧ JarD (C + 41 + 20 * (turn + 1)) jr := ⟨_, fun _ => rfl⟩
    simp only [← hG]
    simp only [List.set_cons_zero, List.set_cons_succ]
    with_reducible refine wS_cut ?_
    intro L hL
    simp
    refine (w_pull hjr (by omega) (.of (by omega) (by omega))).mono ?_
    rintro _ o2 ⟨v2, rfl, a2, b2, j2⟩
    obtain ⟨door, rfl⟩ := Int.eq_ofNat_of_zero_le a2
    have hd3 : door < 3 := by omega
    rw [hL]
    clear hL L
    with_reducible refine wS_cut ?_
    intro L hL
    simp [hlen]
    refine (w_pull j2 (by omega) (.of (by omega) (by omega))).mono ?_
    rintro _ o3 ⟨b, rfl, a3, b3, j3⟩
    try simp [hlen]
    refine (w_pull j3 (by omega) (.of (by omega) (by omega))).mono ?_
    rintro _ o4 ⟨l, rfl, a4, b4, j4⟩
    obtain ⟨l, rfl⟩ := Int.eq_ofNat_of_zero_le a4
    have hl : l < n.length := by omega
    try simp
    refine (w_pull j4 (by omega) (.of (by omega) (by omega))).mono ?_
    rintro _ o5 ⟨v5, rfl, a5, b5, j5⟩
    rw [hL]
    clear hL L
    rw [show D.tup [.int b, .int (l : Nat)] = kD b l from rfl]
    obtain ⟨kd, hkd⟩ : ∃ kd, kd = kD b l := ⟨_, rfl⟩
    rw [← hkd]
    generalize o5[0]?.getD .non = jr5 at j5 ⊢
    -- a lamp
    with_reducible refine wS_cut ?_
    intro L hL
    have go3 : ∀ q jr, (door ≠ 2 → SecOk n door q) → JarD (C + 41 + 20 * turn + 5) jr → L [jr, N, .int (turn : Nat), .int (door : Nat), .lst [N, kd, q], f0, g0, h0] := by
      intro q jr hq hjr
      rw [hL]
      clear hL L
      with_reducible refine wS_cut ?_
      intro L hL
      have go4 : ∀ q jr, SecOk n door q → JarD (C + 41 + 20 * turn + 7) jr → L [jr, N, .int (turn : Nat), .int (door : Nat), .lst [N, kd, q], f0, g0, h0] := by
        intro q jr hq hjr
        rw [hL]
        clear hL L
        have okq := hq.ok hn
        with_reducible refine wS_cut ?_
        intro L hL
        simp
        rw [hL]
        clear hL L
        with_reducible refine wS_cut ?_
        intro L hL
        have go6 : ∀ q dues jr, Fits n door N kd q dues → JarD (C + 41 + 20 * turn + 10) jr → L [jr, N, .int (turn : Nat), .int (door : Nat), .lst [N, kd, q], .lst dues, g0, h0] := by
          intro q dues jr hf hjr
          rw [hL]
          clear hL L
          have okf := hf.ok hn hb9
          with_reducible refine wS_cut ?_
          intro L hL
          have go7 : ∀ s dues jr, Fits n door N s q dues → JarD (C + 41 + 20 * turn + 13) jr → L [jr, N, .int (turn : Nat), .int (door : Nat), .lst [N, s, q], .lst dues, g0, h0] := by
            intro s dues jr hf hjr
            rw [hL]
            clear hL L
            have okf := hf.ok hn hb9
            with_reducible refine wS_cut ?_
            intro L hL
            have go8 : ∀ x dues jr, Fits n door x s q dues → JarD (C + 41 + 20 * turn + 16) jr → L [jr, N, .int (turn : Nat), .int (door : Nat), .lst [x, s, q], .lst dues, g0, h0] := by
              intro x dues jr hf hjr
              rw [hL]
              clear hL L
              have okf := hf.ok hn hb9
              obtain ⟨rp, hrp⟩ := (Rk.lst (k := 2) (w := wtB 2) (ds := [x, s, q]) fun d hd => by
                simp at hd
                rcases hd with rfl | rfl | rfl
                · exact (okB_is okf.1).1
                · exact (okB_is okf.2.1).1
                · exact (okB_is okf.2.2).1).repr (by omega) (show 3 * (wtB 2 + 1) ≤ 160000 by decide)
              have ht := w_told_fits hn hb9 hd3 hf
              clear hf hnk hnn fine second first
              with_reducible refine wS_cut ?_
              intro L hL
              simp [hrp]
              rw [hL]
              clear hL L
              with_reducible refine wS_cut ?_
              intro L hL
              simp
              refine ht.mono ?_
              intro d _ hdu
              rw [hL]
              clear hL L
              rcases hdu with ⟨rfl, ⟨v, rfl, hv⟩, hnm⟩ | ⟨rfl, c, hw⟩
              · have e1 : dEq (.lst []) (.lst []) = .ok (.bl true) := by
                  rw [dEq_pl (by simp) (by simp)]
                  rfl
                have e2 := dNe_self (pl_lst1 hv)
                have e3 : dNe (.lst []) (.lst []) = .ok (.bl false) := dNe_self (by simp)
                with_reducible refine wS_cut ?_
                intro L hL
                simp [e1]
                refine hnm.mono ?_
                rintro _ _ rfl
                simp [e2, hrp]
                rw [hL]
                clear hL L
                simp [e3]
                rw [hG]
                exact ⟨_, _, _, _, _, _, _, rfl, hjr.le (by omega)⟩
              · have e1 : dEq (.lst [d]) (.lst []) = .ok (.bl false) := by
                  rw [dEq_pl (by simp; exact pl_word hw) (by simp)]
                  rfl
                have e2 : dNe d d = .ok (.bl false) := dNe_self (pl_word hw)
                have e3 : dNe (.lst [d]) (.lst []) = .ok (.bl true) := by
                  rw [dNe_pl (by simp; exact pl_word hw) (by simp)]
                  rfl
                have e4 := dNeA_word hw
                with_reducible refine wS_cut ?_
                intro L hL
                simp [e1, hrp]
                rw [hL]
                clear hL L
                simp [e3, e4]
                rw [hG]
                exact ⟨_, _, _, _, _, _, _, rfl, hjr.le (by omega)⟩
            simp
            refine (w_pull hjr (by omega) (.of (by omega) (by omega))).mono ?_
            rintro _ o8 ⟨v8, rfl, a8, b8, j8⟩
            simp
            refine ⟨fun z => ?_, fun z => ?_⟩
            · refine (hnn j8 (by omega)).mono ?_
              rintro x o9 ⟨⟨hx, hx2⟩, j9⟩
              try simp
              exact go8 x [netS] _ (.net hx hx2 okf.2.1 okf.2.2) (j9.le (by omega))
            · exact go8 N dues _ hf (j8.le (by omega))
          simp
          refine (w_pull hjr (by omega) (.of (by omega) (by omega))).mono ?_
          rintro _ o8 ⟨v8, rfl, a8, b8, j8⟩
          simp
          refine ⟨fun z => ?_, fun z => ?_⟩
          · refine (hnk j8 (by omega)).mono ?_
            rintro x o9 ⟨⟨hx, hx2⟩, j9⟩
            try simp
            exact go7 x [kindS] _ (first hx hx2 okf.2.2) (j9.le (by omega))
          · exact go7 kd dues _ hf (j8.le (by omega))
        simp
        refine (w_pull hjr (by omega) (.of (by omega) (by omega))).mono ?_
        rintro _ o8 ⟨v8, rfl, a8, b8, j8⟩
        have esec : dIx (.lst [.str (PySem.Str.ofString "beat"), .str (PySem.Str.ofString "lamp"), .str (PySem.Str.ofString "kindling")]) (.int (door : Nat)) = .ok (secS door) := by
          rcases (show door = 0 ∨ door = 1 ∨ door = 2 by omega) with rfl | rfl | rfl <;> rfl
        simp
        refine ⟨fun z => ⟨fun z2 => ?_, fun z2 => ?_⟩, fun z => ?_⟩
        · obtain ⟨most, hm, em, hbad⟩ : ∃ most : Nat, most ≤ 12 ∧ dIx (.lst [.int 0, .int n.length]) (.int (door : Nat)) = .ok (.int most) ∧ (∀ d, okB 2 d = true → (nwB d = false ∨ (d = .int most ∧ 0 < most)) → SecBad n door d) := by
            rcases (show door = 0 ∨ door = 1 by omega) with rfl | rfl
            · refine ⟨0, by omega, rfl, fun d hd h => ⟨hd, .inl ⟨rfl, ?_⟩⟩⟩
              rcases h with h | ⟨_, h⟩
              · exact h
              · omega
            · refine ⟨n.length, by omega, rfl, fun d hd h => ⟨hd, .inr (.inl ⟨rfl, ?_⟩)⟩⟩
              rcases h with h | ⟨rfl, h⟩
              · cases d with
                | int i =>
                  simp only [nwB, decide_eq_false_iff_not] at h
                  simp [belowB]
                  omega
                | _ => rfl
              · simp [belowB]
          simp only [hlen, wR_ok, em]
          refine (w_no_number j8 (by omega) hm).mono ?_
          rintro x o9 ⟨⟨hx, hx2⟩, j9⟩
          rw [esec, wR_ok]
          refine go6 x [secS door] _ ?_ (j9.le (by omega))
          rw [hkd]
          exact second a3 (by omega) hl (hbad x hx hx2)
        · refine (hnk j8 (by omega)).mono ?_
          rintro x o9 ⟨⟨hx, hx2⟩, j9⟩
          simp [esec]
          refine go6 x [secS door] _ ?_ (j9.le (by omega))
          rw [hkd]
          exact second a3 (by omega) hl ⟨hx, .inr (.inr ⟨by omega, hx2⟩)⟩
        · refine go6 q [] _ ?_ (j8.le (by omega))
          rw [hkd]
          exact fine a3 (by omega) hl hq
      simp [hlen]
      refine ⟨fun z => ?_, fun z => ?_⟩
      · refine (w_pull hjr (by omega) (.of (by omega) (by omega))).mono ?_
        rintro _ o6 ⟨b6, rfl, a6, b6', j6⟩
        try simp [hlen]
        refine (w_pull j6 (by omega) (.of (by omega) (by omega))).mono ?_
        rintro _ o7 ⟨l7, rfl, a7, b7, j7⟩
        obtain ⟨l7, rfl⟩ := Int.eq_ofNat_of_zero_le a7
        try simp
        refine go4 _ _ ?_ (j7.le (by omega))
        exact .inr (.inr ⟨by omega, b6, l7, rfl, a6, by omega, by omega⟩)
      · exact go4 q jr (hq (by omega)) (hjr.le (by omega))
    simp [hlen]
    refine ⟨fun z => ?_, fun z => ?_⟩
    · refine (w_pull j5 (by omega) (.of (by omega) (by omega))).mono ?_
      rintro _ o6 ⟨b6, rfl, a6, b6', j6⟩
      obtain ⟨b6, rfl⟩ := Int.eq_ofNat_of_zero_le a6
      try simp
      refine go3 _ _ (fun _ => ?_) (j6.le (by omega))
      exact .inr (.inl ⟨by omega, b6, rfl, by omega⟩)
    · refine go3 _ _ (fun z2 => ?_) (j5.le (by omega))
      exact .inl ⟨by omega, v5, rfl, a5, by omega⟩
theorem law_ok : LawOk m_law := by
  intro ns hn hb
  have : wE (m_law [.lst (ns.map D.int)]) fun d _ => d = .bl true := by
    apply run_law
    simp [b_law]
    refine (w_cells (m := 8) (by omega) hn).mono ?_
    rintro _ _ ⟨cs, rfl, hc⟩
    simp
    refine ⟨by omega, ?_⟩
    refine forR_inv (I := fun m r => ∃ x, r = [.lst (ns.map D.int), .lst (cs.map D.int), x]) ⟨_, rfl⟩ ?_ ?_
    · rintro m r hm ⟨x, rfl⟩
      simp
      rw [dIx_nat (d := .lst (cs.map D.int)) (k := m) rfl (by rw [List.getElem?_map, List.getElem?_eq_getElem hm]; rfl)]
      simp
      refine (w_jar (by omega)).mono ?_
      rintro j _ hj
      refine (w_right hj (by omega)).mono ?_
      rintro _ _ rfl
      simp
    · rintro r ⟨x, rfl⟩
      simp
  obtain ⟨d, rho, e, rfl⟩ := wE.iff.mp this
  exact ⟨rho, e⟩
end K23
namespace K23
open PySem L2 EB
def topS (i : Nat) : Stmt := PySem.Challenge.pw_emberlane_k23_alone_refused.main.body.getD i (.Pass ⟨0, 0, 0, 0⟩)
/-- what the top has written -/
structure Tx (K : PySem.W.Frag) (mg : Str → Option Value) : Prop where
  n_ValueError : mg "ValueError" = none
  n_all : mg "all" = none
  n_bool : mg "bool" = none
  n_int : mg "int" = none
  n_isinstance : mg "isinstance" = none
  n_len : mg "len" = none
  n_list : mg "list" = none
  n_max : mg "max" = none
  n_range : mg "range" = none
  n_repr : mg "repr" = none
  n_sum : mg "sum" = none
  n_tuple : mg "tuple" = none
  c_MOST_LAMPS : ∃ t, mg "MOST_LAMPS" = some (.int 12 t)
  x_NoBeat : ∃ C, Exc K mg "NoBeat" C
  x_NoKindlings : ∃ C, Exc K mg "NoKindlings" C
  x_NoLamp : ∃ C, Exc K mg "NoLamp" C
  x_NoNet : ∃ C, Exc K mg "NoNet" C
  m_EmberError : ∃ C, mg "EmberError" = some (.ref C)
  m_NoBeat : ∃ C, mg "NoBeat" = some (.ref C)
  m_NoFlame : ∃ C, mg "NoFlame" = some (.ref C)
  m_NoKindlings : ∃ C, mg "NoKindlings" = some (.ref C)
  m_NoLamp : ∃ C, mg "NoLamp" = some (.ref C)
  m_NoNet : ∃ C, mg "NoNet" = some (.ref C)
  m_NoNumber : ∃ C, mg "NoNumber" = some (.ref C)
  m_NoPart : ∃ C, mg "NoPart" = some (.ref C)
  m_NoRing : ∃ C, mg "NoRing" = some (.ref C)
  m_NoText : ∃ C, mg "NoText" = some (.ref C)
  ec_NoBeat : ∀ C, mg "NoBeat" = some (.ref C) → ExcC K C
  ec_NoKindlings : ∀ C, mg "NoKindlings" = some (.ref C) → ExcC K C
  ec_NoLamp : ∀ C, mg "NoLamp" = some (.ref C) → ExcC K C
  ec_NoNet : ∀ C, mg "NoNet" = some (.ref C) → ExcC K C
  is_NoNet_NoNet : ∀ C D, mg "NoNet" = some (.ref C) → mg "NoNet" = some (.ref D) → PySem.W.kitOne K (.ref C) (.ref D) = some true
  is_NoLamp_NoNet : ∀ C D, mg "NoLamp" = some (.ref C) → mg "NoNet" = some (.ref D) → PySem.W.kitOne K (.ref C) (.ref D) = some false
  is_NoKindlings_NoNet : ∀ C D, mg "NoKindlings" = some (.ref C) → mg "NoNet" = some (.ref D) → PySem.W.kitOne K (.ref C) (.ref D) = some false
  is_NoBeat_NoNet : ∀ C D, mg "NoBeat" = some (.ref C) → mg "NoNet" = some (.ref D) → PySem.W.kitOne K (.ref C) (.ref D) = some false
  is_NoNet_NoKindlings : ∀ C D, mg "NoNet" = some (.ref C) → mg "NoKindlings" = some (.ref D) → PySem.W.kitOne K (.ref C) (.ref D) = some false
  is_NoLamp_NoKindlings : ∀ C D, mg "NoLamp" = some (.ref C) → mg "NoKindlings" = some (.ref D) → PySem.W.kitOne K (.ref C) (.ref D) = some false
  is_NoKindlings_NoKindlings : ∀ C D, mg "NoKindlings" = some (.ref C) → mg "NoKindlings" = some (.ref D) → PySem.W.kitOne K (.ref C) (.ref D) = some true
  is_NoBeat_NoKindlings : ∀ C D, mg "NoBeat" = some (.ref C) → mg "NoKindlings" = some (.ref D) → PySem.W.kitOne K (.ref C) (.ref D) = some false
  is_NoNet_NoBeat : ∀ C D, mg "NoNet" = some (.ref C) → mg "NoBeat" = some (.ref D) → PySem.W.kitOne K (.ref C) (.ref D) = some false
  is_NoLamp_NoBeat : ∀ C D, mg "NoLamp" = some (.ref C) → mg "NoBeat" = some (.ref D) → PySem.W.kitOne K (.ref C) (.ref D) = some false
  is_NoKindlings_NoBeat : ∀ C D, mg "NoKindlings" = some (.ref C) → mg "NoBeat" = some (.ref D) → PySem.W.kitOne K (.ref C) (.ref D) = some false
  is_NoBeat_NoBeat : ∀ C D, mg "NoBeat" = some (.ref C) → mg "NoBeat" = some (.ref D) → PySem.W.kitOne K (.ref C) (.ref D) = some true
  is_NoNet_NoLamp : ∀ C D, mg "NoNet" = some (.ref C) → mg "NoLamp" = some (.ref D) → PySem.W.kitOne K (.ref C) (.ref D) = some false
  is_NoLamp_NoLamp : ∀ C D, mg "NoLamp" = some (.ref C) → mg "NoLamp" = some (.ref D) → PySem.W.kitOne K (.ref C) (.ref D) = some true
  is_NoKindlings_NoLamp : ∀ C D, mg "NoKindlings" = some (.ref C) → mg "NoLamp" = some (.ref D) → PySem.W.kitOne K (.ref C) (.ref D) = some false
  is_NoBeat_NoLamp : ∀ C D, mg "NoBeat" = some (.ref C) → mg "NoLamp" = some (.ref D) → PySem.W.kitOne K (.ref C) (.ref D) = some false
  is_NoNet_NoText : ∀ C D, mg "NoNet" = some (.ref C) → mg "NoText" = some (.ref D) → PySem.W.kitOne K (.ref C) (.ref D) = some false
  is_NoNet_NoRing : ∀ C D, mg "NoNet" = some (.ref C) → mg "NoRing" = some (.ref D) → PySem.W.kitOne K (.ref C) (.ref D) = some false
  is_NoNet_NoPart : ∀ C D, mg "NoNet" = some (.ref C) → mg "NoPart" = some (.ref D) → PySem.W.kitOne K (.ref C) (.ref D) = some false
  is_NoNet_NoNumber : ∀ C D, mg "NoNet" = some (.ref C) → mg "NoNumber" = some (.ref D) → PySem.W.kitOne K (.ref C) (.ref D) = some false
  is_NoNet_NoFlame : ∀ C D, mg "NoNet" = some (.ref C) → mg "NoFlame" = some (.ref D) → PySem.W.kitOne K (.ref C) (.ref D) = some false
  is_NoLamp_NoText : ∀ C D, mg "NoLamp" = some (.ref C) → mg "NoText" = some (.ref D) → PySem.W.kitOne K (.ref C) (.ref D) = some false
  is_NoLamp_NoRing : ∀ C D, mg "NoLamp" = some (.ref C) → mg "NoRing" = some (.ref D) → PySem.W.kitOne K (.ref C) (.ref D) = some false
  is_NoLamp_NoPart : ∀ C D, mg "NoLamp" = some (.ref C) → mg "NoPart" = some (.ref D) → PySem.W.kitOne K (.ref C) (.ref D) = some false
  is_NoLamp_NoNumber : ∀ C D, mg "NoLamp" = some (.ref C) → mg "NoNumber" = some (.ref D) → PySem.W.kitOne K (.ref C) (.ref D) = some false
  is_NoLamp_NoFlame : ∀ C D, mg "NoLamp" = some (.ref C) → mg "NoFlame" = some (.ref D) → PySem.W.kitOne K (.ref C) (.ref D) = some false
  is_NoKindlings_NoText : ∀ C D, mg "NoKindlings" = some (.ref C) → mg "NoText" = some (.ref D) → PySem.W.kitOne K (.ref C) (.ref D) = some false
  is_NoKindlings_NoRing : ∀ C D, mg "NoKindlings" = some (.ref C) → mg "NoRing" = some (.ref D) → PySem.W.kitOne K (.ref C) (.ref D) = some false
  is_NoKindlings_NoPart : ∀ C D, mg "NoKindlings" = some (.ref C) → mg "NoPart" = some (.ref D) → PySem.W.kitOne K (.ref C) (.ref D) = some false
  is_NoKindlings_NoNumber : ∀ C D, mg "NoKindlings" = some (.ref C) → mg "NoNumber" = some (.ref D) → PySem.W.kitOne K (.ref C) (.ref D) = some false
  is_NoKindlings_NoFlame : ∀ C D, mg "NoKindlings" = some (.ref C) → mg "NoFlame" = some (.ref D) → PySem.W.kitOne K (.ref C) (.ref D) = some false
  is_NoBeat_NoText : ∀ C D, mg "NoBeat" = some (.ref C) → mg "NoText" = some (.ref D) → PySem.W.kitOne K (.ref C) (.ref D) = some false
  is_NoBeat_NoRing : ∀ C D, mg "NoBeat" = some (.ref C) → mg "NoRing" = some (.ref D) → PySem.W.kitOne K (.ref C) (.ref D) = some false
  is_NoBeat_NoPart : ∀ C D, mg "NoBeat" = some (.ref C) → mg "NoPart" = some (.ref D) → PySem.W.kitOne K (.ref C) (.ref D) = some false
  is_NoBeat_NoNumber : ∀ C D, mg "NoBeat" = some (.ref C) → mg "NoNumber" = some (.ref D) → PySem.W.kitOne K (.ref C) (.ref D) = some false
  is_NoBeat_NoFlame : ∀ C D, mg "NoBeat" = some (.ref C) → mg "NoFlame" = some (.ref D) → PySem.W.kitOne K (.ref C) (.ref D) = some false
  iv_NoNet : ∀ C, mg "NoNet" = some (.ref C) → PySem.W.kitOne K (.ref C) (.type "ValueError") = some true
  iv_NoLamp : ∀ C, mg "NoLamp" = some (.ref C) → PySem.W.kitOne K (.ref C) (.type "ValueError") = some true
  iv_NoKindlings : ∀ C, mg "NoKindlings" = some (.ref C) → PySem.W.kitOne K (.ref C) (.type "ValueError") = some true
  iv_NoBeat : ∀ C, mg "NoBeat" = some (.ref C) → PySem.W.kitOne K (.ref C) (.type "ValueError") = some true
  ex_NoNet_EmberError : ∀ C D, mg "NoNet" = some (.ref C) → mg "EmberError" = some (.ref D) → PySem.W.exmOne K (.ref C) (.ref D) = some true
  ex_NoLamp_EmberError : ∀ C D, mg "NoLamp" = some (.ref C) → mg "EmberError" = some (.ref D) → PySem.W.exmOne K (.ref C) (.ref D) = some true
  ex_NoKindlings_EmberError : ∀ C D, mg "NoKindlings" = some (.ref C) → mg "EmberError" = some (.ref D) → PySem.W.exmOne K (.ref C) (.ref D) = some true
  ex_NoBeat_EmberError : ∀ C D, mg "NoBeat" = some (.ref C) → mg "EmberError" = some (.ref D) → PySem.W.exmOne K (.ref C) (.ref D) = some true
abbrev s_is_whole : Stmt := topS 13
abbrev N_is_whole : List Str := ["thing"]
theorem sc_is_whole : FnScope N_is_whole ["thing"] (defScope s_is_whole) := ⟨rfl, rfl, rfl, by decide +kernel, rfl, by decide +kernel, by decide +kernel⟩
abbrev D_is_whole (P : Program) (w : World) (K : PySem.W.Frag) (mg : Str → Option Value) (base : Heap) (k : Nat) : Prop := Def P w K mg base k "is_whole" ["thing"] [Sh.s] [Sh.u] Sh.s m_is_whole
theorem def_is_whole {P : Program} {w : World} {K : PySem.W.Frag} {mg : Str → Option Value} {base : Heap} {f : Addr} {fd : FuncData} (T : Tx K mg) (F : Fun K "is_whole" "is_whole" s_is_whole f fd) (hm : mg "is_whole" = some (.ref f)) :
    D_is_whole P w K mg base 1 :=
  def_ok2 (k := 0) (n := 0) (N := N_is_whole) (Pn := []) (M := [Sh.u]) (fb := b_is_whole) F sc_is_whole hm (F.binds (ps := ["thing"]) fun _ _ _ _ _ _ us hl => match us, hl with | [_], _ => rfl) [Sh.s]
    fun cdv A outer s H E hr tk po => ⟨_, (DB.one (DS.ret (DE.and (DE.isi .int T.n_isinstance T.n_int (DE.var 0)) (DE.one (DE.not (DE.isi .bool T.n_isinstance T.n_bool (DE.var 0)))))))⟩
abbrev s_is_below : Stmt := topS 14
abbrev N_is_below : List Str := ["thing", "many"]
theorem sc_is_below : FnScope N_is_below ["thing", "many"] (defScope s_is_below) := ⟨rfl, rfl, rfl, by decide +kernel, rfl, by decide +kernel, by decide +kernel⟩
abbrev D_is_below (P : Program) (w : World) (K : PySem.W.Frag) (mg : Str → Option Value) (base : Heap) (k : Nat) : Prop := Def P w K mg base k "is_below" ["thing", "many"] [Sh.s, Sh.s] [Sh.u, Sh.u] Sh.s m_is_below
theorem def_is_below {P : Program} {w : World} {K : PySem.W.Frag} {mg : Str → Option Value} {base : Heap} {f : Addr} {fd : FuncData} (T : Tx K mg) (d_is_whole : D_is_whole P w K mg base 1) (F : Fun K "is_below" "is_below" s_is_below f fd) (hm : mg "is_below" = some (.ref f)) :
    D_is_below P w K mg base 2 :=
  def_ok2 (k := 1) (n := 0) (N := N_is_below) (Pn := []) (M := [Sh.u, Sh.u]) (fb := b_is_below) F sc_is_below hm (F.binds (ps := ["thing", "many"]) fun _ _ _ _ _ _ us hl => match us, hl with | [_, _], _ => rfl) [Sh.s, Sh.s]
    fun cdv A outer s H E hr tk po => ⟨_, (DB.one (DS.ret (DE.and (DE.own [] d_is_whole hr (fun _ => tk) rfl (DA.cons (DE.var 0) DA.nil)) (DE.one (DE.chain (fun _ => op_le) (fun _ => op_lt) o2_le o2_lt DE.int (DE.var 0) (DE.var 1))))))⟩
abbrev s_is_lamp : Stmt := topS 15
abbrev N_is_lamp : List Str := ["many", "thing", "length", "following"]
theorem sc_is_lamp : FnScope N_is_lamp ["many", "thing"] (defScope s_is_lamp) := ⟨rfl, rfl, rfl, by decide +kernel, rfl, by decide +kernel, by decide +kernel⟩
abbrev D_is_lamp (P : Program) (w : World) (K : PySem.W.Frag) (mg : Str → Option Value) (base : Heap) (k : Nat) : Prop := Def P w K mg base k "is_lamp" ["many", "thing"] [Sh.s, Sh.s] [Sh.u, Sh.u] Sh.s m_is_lamp
theorem def_is_lamp {P : Program} {w : World} {K : PySem.W.Frag} {mg : Str → Option Value} {base : Heap} {f : Addr} {fd : FuncData} (T : Tx K mg) (d_is_whole : D_is_whole P w K mg base 2) (d_is_below : D_is_below P w K mg base 2) (F : Fun K "is_lamp" "is_lamp" s_is_lamp f fd) (hm : mg "is_lamp" = some (.ref f)) :
    D_is_lamp P w K mg base 3 :=
  def_ok2 (k := 2) (n := 2) (N := N_is_lamp) (Pn := []) (M := [Sh.u, Sh.u, Sh.u, Sh.u]) (fb := b_is_lamp) F sc_is_lamp hm (F.binds (ps := ["many", "thing"]) fun _ _ _ _ _ _ us hl => match us, hl with | [_, _], _ => rfl) [Sh.s, Sh.s, Sh.u, Sh.u]
    fun cdv A outer s H E hr tk po => ⟨_, (DB.cons (DS.to [Sh.s, Sh.s, Sh.u, Sh.u] (DS.ite (DW.t (DW.or (DT.not (DT.val (DE.isi .tuple T.n_isinstance T.n_tuple (DE.var 1)))) (DW.or1 (DT.cmpU (hu65 hr) opU_neA o2_neA (DE.callB (fun _ => call_lenA) cd_len PySem.boot_len T.n_len (DA.cons (DE.var 1) DA.nil)) DE.int)))) (DB.one (DS.ret DE.bl)) DB.nil)) (DB.cons (DS.to [Sh.s, Sh.s, Sh.s, Sh.s] (DS.unp [2, 3] (fun _ => (pg_tup rfl (pgs_cons (pg_name (i := 2) sc_is_lamp.nd rfl (Or.inl rfl)) (pgs_cons (pg_name (i := 3) sc_is_lamp.nd rfl (Or.inl rfl)) pgs_nil)))) (DE.var 1))) (DB.one (DS.ret (DE.and (DE.own [] d_is_whole hr (fun _ => tk) rfl (DA.cons (DE.var 2) DA.nil)) (DE.and (DE.cmp (fun _ => op_ge) o2_ge (DE.var 2) DE.int) (DE.one (DE.or (DE.cmp (fun _ => op_isN) o2_is (DE.var 3) DE.non) (DE.one (DE.own [] d_is_below hr (fun _ => tk) rfl (DA.cons (DE.var 3) (DA.cons (DE.var 0) DA.nil))))))))))))⟩
abbrev s_is_net : Stmt := topS 16
abbrev N_is_net : List Str := ["thing", "lamp"]
theorem sc_is_net : FnScope N_is_net ["thing"] (defScope s_is_net) := ⟨rfl, rfl, rfl, by decide +kernel, rfl, by decide +kernel, by decide +kernel⟩
abbrev D_is_net (P : Program) (w : World) (K : PySem.W.Frag) (mg : Str → Option Value) (base : Heap) (k : Nat) : Prop := Def P w K mg base k "is_net" ["thing"] [Sh.s] [Sh.u] Sh.s m_is_net
theorem def_is_net {P : Program} {w : World} {K : PySem.W.Frag} {mg : Str → Option Value} {base : Heap} {f : Addr} {fd : FuncData} (T : Tx K mg) (d_is_lamp : D_is_lamp P w K mg base 3) (F : Fun K "is_net" "is_net" s_is_net f fd) (hm : mg "is_net" = some (.ref f)) :
    D_is_net P w K mg base 4 :=
  def_ok2 (k := 3) (n := 1) (N := N_is_net) (Pn := []) (M := [Sh.u, Sh.u]) (fb := b_is_net) F sc_is_net hm (F.binds (ps := ["thing"]) fun _ _ _ _ _ _ us hl => match us, hl with | [_], _ => rfl) [Sh.s, Sh.u]
    fun cdv A outer s H E hr tk po => ⟨_, (DB.cons (DS.to [Sh.s, Sh.u] (DS.ite (DW.t (DW.or (DT.not (DT.val (DE.isi .tuple T.n_isinstance T.n_tuple (DE.var 0)))) (DW.or1 (DT.not (DT.chain (fun _ => op_le) (fun _ => op_le) o2_le o2_le DE.int (DE.callB (fun _ => call_lenA) cd_len PySem.boot_len T.n_len (DA.cons (DE.var 0) DA.nil)) (DE.globI T.c_MOST_LAMPS.choose_spec)))))) (DB.one (DS.ret DE.bl)) DB.nil)) (DB.one (DS.ret (DE.callB (fun _ => (cr_all rfl)) cd_all PyProof.Rows.boot_all T.n_all (DA.cons (DE.freeze (DE.comp rfl sc_is_net.nd (DI.any (DE.var 0)) (fun _ => blkOk_by (N := N_is_net) (sc := defScope s_is_net) (own := [("lamp", 1)]) (by decide +kernel)) (fun _ => pg_name (i := 1) sc_is_net.nd rfl (Or.inl rfl)) (SemG.name (by decide)) (DE.own [] d_is_lamp hr (fun _ => takes0) rfl (DA.cons (DE.callB (fun _ => call_lenA) cd_len PySem.boot_len T.n_len (DA.cons (DE.var 0) DA.nil)) (DA.cons (DE.var 1) DA.nil))))) DA.nil)))))⟩
abbrev s_is_kindling : Stmt := topS 17
abbrev N_is_kindling : List Str := ["net", "thing"]
theorem sc_is_kindling : FnScope N_is_kindling ["net", "thing"] (defScope s_is_kindling) := ⟨rfl, rfl, rfl, by decide +kernel, rfl, by decide +kernel, by decide +kernel⟩
abbrev D_is_kindling (P : Program) (w : World) (K : PySem.W.Frag) (mg : Str → Option Value) (base : Heap) (k : Nat) : Prop := Def P w K mg base k "is_kindling" ["net", "thing"] [Sh.s, Sh.s] [Sh.u, Sh.u] Sh.s m_is_kindling
theorem def_is_kindling {P : Program} {w : World} {K : PySem.W.Frag} {mg : Str → Option Value} {base : Heap} {f : Addr} {fd : FuncData} (T : Tx K mg) (d_is_whole : D_is_whole P w K mg base 2) (d_is_below : D_is_below P w K mg base 2) (F : Fun K "is_kindling" "is_kindling" s_is_kindling f fd) (hm : mg "is_kindling" = some (.ref f)) :
    D_is_kindling P w K mg base 3 :=
  def_ok2 (k := 2) (n := 0) (N := N_is_kindling) (Pn := []) (M := [Sh.u, Sh.u]) (fb := b_is_kindling) F sc_is_kindling hm (F.binds (ps := ["net", "thing"]) fun _ _ _ _ _ _ us hl => match us, hl with | [_, _], _ => rfl) [Sh.s, Sh.s]
    fun cdv A outer s H E hr tk po => ⟨_, (DB.cons (DS.to [Sh.s, Sh.s] (DS.ite (DW.t (DW.or (DT.not (DT.val (DE.isi .tuple T.n_isinstance T.n_tuple (DE.var 1)))) (DW.or1 (DT.cmpU (hu65 hr) opU_neA o2_neA (DE.callB (fun _ => call_lenA) cd_len PySem.boot_len T.n_len (DA.cons (DE.var 1) DA.nil)) DE.int)))) (DB.one (DS.ret DE.bl)) DB.nil)) (DB.one (DS.ret (DE.and (DE.own [] d_is_whole hr (fun _ => tk) rfl (DA.cons (DE.ix (DE.var 1) DE.int) DA.nil)) (DE.and (DE.cmp (fun _ => op_ge) o2_ge (DE.ix (DE.var 1) DE.int) DE.int) (DE.one (DE.own [] d_is_below hr (fun _ => tk) rfl (DA.cons (DE.ix (DE.var 1) DE.int) (DA.cons (DE.callB (fun _ => call_lenA) cd_len PySem.boot_len T.n_len (DA.cons (DE.var 0) DA.nil)) DA.nil)))))))))⟩
abbrev s_need_net : Stmt := topS 18
abbrev N_need_net : List Str := ["net"]
theorem sc_need_net : FnScope N_need_net ["net"] (defScope s_need_net) := ⟨rfl, rfl, rfl, by decide +kernel, rfl, by decide +kernel, by decide +kernel⟩
abbrev D_need_net (P : Program) (w : World) (K : PySem.W.Frag) (mg : Str → Option Value) (base : Heap) (k : Nat) : Prop := Def P w K mg base k "need_net" ["net"] [Sh.s] [Sh.u] Sh.s m_need_net
theorem def_need_net {P : Program} {w : World} {K : PySem.W.Frag} {mg : Str → Option Value} {base : Heap} {f : Addr} {fd : FuncData} (T : Tx K mg) (d_is_net : D_is_net P w K mg base 4) (F : Fun K "need_net" "need_net" s_need_net f fd) (hm : mg "need_net" = some (.ref f)) :
    D_need_net P w K mg base 5 :=
  def_ok2 (k := 4) (n := 0) (N := N_need_net) (Pn := []) (M := [Sh.u]) (fb := b_need_net) F sc_need_net hm (F.binds (ps := ["net"]) fun _ _ _ _ _ _ us hl => match us, hl with | [_], _ => rfl) [Sh.s]
    fun cdv A outer s H E hr tk po => ⟨_, (DB.weak [] [0] (DB.one (DS.to [Sh.s] (DS.ite (DT.not (DT.val (DE.own [] d_is_net hr (fun _ => tk) rfl (DA.cons (DE.var 0) DA.nil)))) (DB.one (DS.raise rfl (fun _ => tk) T.x_NoNet.choose_spec)) DB.nil))))⟩
abbrev s_need_lamp : Stmt := topS 19
abbrev N_need_lamp : List Str := ["net", "lamp"]
theorem sc_need_lamp : FnScope N_need_lamp ["net", "lamp"] (defScope s_need_lamp) := ⟨rfl, rfl, rfl, by decide +kernel, rfl, by decide +kernel, by decide +kernel⟩
abbrev D_need_lamp (P : Program) (w : World) (K : PySem.W.Frag) (mg : Str → Option Value) (base : Heap) (k : Nat) : Prop := Def P w K mg base k "need_lamp" ["net", "lamp"] [Sh.s, Sh.s] [Sh.u, Sh.u] Sh.s m_need_lamp
theorem def_need_lamp {P : Program} {w : World} {K : PySem.W.Frag} {mg : Str → Option Value} {base : Heap} {f : Addr} {fd : FuncData} (T : Tx K mg) (d_is_below : D_is_below P w K mg base 2) (F : Fun K "need_lamp" "need_lamp" s_need_lamp f fd) (hm : mg "need_lamp" = some (.ref f)) :
    D_need_lamp P w K mg base 3 :=
  def_ok2 (k := 2) (n := 0) (N := N_need_lamp) (Pn := []) (M := [Sh.u, Sh.u]) (fb := b_need_lamp) F sc_need_lamp hm (F.binds (ps := ["net", "lamp"]) fun _ _ _ _ _ _ us hl => match us, hl with | [_, _], _ => rfl) [Sh.s, Sh.s]
    fun cdv A outer s H E hr tk po => ⟨_, (DB.weak [] [0, 1] (DB.one (DS.to [Sh.s, Sh.s] (DS.ite (DT.not (DT.val (DE.own [] d_is_below hr (fun _ => tk) rfl (DA.cons (DE.var 1) (DA.cons (DE.callB (fun _ => call_lenA) cd_len PySem.boot_len T.n_len (DA.cons (DE.var 0) DA.nil)) DA.nil))))) (DB.one (DS.raise rfl (fun _ => tk) T.x_NoLamp.choose_spec)) DB.nil))))⟩
abbrev s_way_of : Stmt := topS 20
abbrev N_way_of : List Str := ["net", "lamp", "way", "following", "at"]
theorem sc_way_of : FnScope N_way_of ["net", "lamp"] (defScope s_way_of) := ⟨rfl, rfl, rfl, by decide +kernel, rfl, by decide +kernel, by decide +kernel⟩
abbrev D_way_of (P : Program) (w : World) (K : PySem.W.Frag) (mg : Str → Option Value) (base : Heap) (k : Nat) : Prop := Def P w K mg base k "way_of" ["net", "lamp"] [Sh.s, Sh.s] [Sh.u, Sh.u] Sh.s m_way_of
theorem def_way_of {P : Program} {w : World} {K : PySem.W.Frag} {mg : Str → Option Value} {base : Heap} {f : Addr} {fd : FuncData} (T : Tx K mg) (d_need_net : D_need_net P w K mg base 5) (d_need_lamp : D_need_lamp P w K mg base 5) (F : Fun K "way_of" "way_of" s_way_of f fd) (hm : mg "way_of" = some (.ref f)) :
    D_way_of P w K mg base 6 :=
  def_ok2 (k := 5) (n := 3) (N := N_way_of) (Pn := []) (M := [Sh.u, Sh.u, Sh.u, Sh.u, Sh.u]) (fb := b_way_of) F sc_way_of hm (F.binds (ps := ["net", "lamp"]) fun _ _ _ _ _ _ us hl => match us, hl with | [_, _], _ => rfl) [Sh.s, Sh.s, Sh.u, Sh.u, Sh.u]
    fun cdv A outer s H E hr tk po => ⟨_, (DB.cons (DS.to [Sh.s, Sh.s, Sh.u, Sh.u, Sh.u] (DS.expr (DE.own [] d_need_net hr (fun _ => tk) rfl (DA.cons (DE.var 0) DA.nil)))) (DB.cons (DS.to [Sh.s, Sh.s, Sh.u, Sh.u, Sh.u] (DS.expr (DE.own [] d_need_lamp hr (fun _ => tk) rfl (DA.cons (DE.var 0) (DA.cons (DE.var 1) DA.nil))))) (DB.cons (DS.to [Sh.s, Sh.s, (Sh.l Sh.s), Sh.u, Sh.u] (DS.set 2 sc_way_of.nd (DE.lst (DA.cons (DE.var 1) DA.nil)))) (DB.cons (DS.to [Sh.s, Sh.s, (Sh.l Sh.s), Sh.s, Sh.u] (DS.set 3 sc_way_of.nd (DE.ix (DE.ix (DE.var 0) (DE.var 1)) DE.int))) (DB.cons (DS.to [Sh.s, Sh.s, (Sh.l Sh.s), Sh.s, Sh.u] (DS.while (fun _ => po) (DW.t (DW.and (DT.cmp (fun _ => op_notN) o2_isnot (DE.var 3) DE.non) (DW.and1 (DT.cmpU (hu65 hr) opU_notin o2_notinA (DE.var 3) (DE.bor 2 (Sh.l Sh.s)))))) (DB.cons (DS.to [Sh.s, Sh.s, (Sh.l Sh.s), Sh.s, Sh.u] (DS.app 2 (DE.var 3))) (DB.one (DS.to [Sh.s, Sh.s, (Sh.l Sh.s), Sh.s, Sh.u] (DS.set 3 sc_way_of.nd (DE.ix (DE.ix (DE.var 0) (DE.var 3)) DE.int))))))) (DB.cons (DS.to [Sh.s, Sh.s, (Sh.l Sh.s), Sh.s, Sh.u] (DS.ite (DT.cmp (fun _ => op_isN) o2_is (DE.var 3) DE.non) (DB.one (DS.ret (DE.tup (DA.cons (DE.callT (fun _ => call_tupQ) cd_tupOf PyProof.Rows.boot_tuple T.n_tuple (DA.cons (DE.bor 2 (Sh.l Sh.s)) DA.nil)) (DA.cons (DE.tup DA.nil) DA.nil))))) DB.nil)) (DB.cons (DS.to [Sh.s, Sh.s, (Sh.l Sh.s), Sh.s, Sh.s] (DS.set 4 sc_way_of.nd (DE.idx (hu65 hr) (DE.bor 2 (Sh.l Sh.s)) (DE.var 3)))) (DB.one (DS.ret (DE.tup (DA.cons (DE.callT (fun _ => call_tupQ) cd_tupOf PyProof.Rows.boot_tuple T.n_tuple (DA.cons (DE.sl01 (DE.bor 2 (Sh.l Sh.s)) (DE.var 4)) DA.nil)) (DA.cons (DE.callT (fun _ => call_tupQ) cd_tupOf PyProof.Rows.boot_tuple T.n_tuple (DA.cons (DE.sl10 (DE.bor 2 (Sh.l Sh.s)) (DE.var 4)) DA.nil)) DA.nil))))))))))))⟩
abbrev s_need_kindling : Stmt := topS 22
abbrev N_need_kindling : List Str := ["net", "thing"]
theorem sc_need_kindling : FnScope N_need_kindling ["net", "thing"] (defScope s_need_kindling) := ⟨rfl, rfl, rfl, by decide +kernel, rfl, by decide +kernel, by decide +kernel⟩
abbrev D_need_kindling (P : Program) (w : World) (K : PySem.W.Frag) (mg : Str → Option Value) (base : Heap) (k : Nat) : Prop := Def P w K mg base k "need_kindling" ["net", "thing"] [Sh.s, Sh.s] [Sh.u, Sh.u] Sh.s m_need_kindling
theorem def_need_kindling {P : Program} {w : World} {K : PySem.W.Frag} {mg : Str → Option Value} {base : Heap} {f : Addr} {fd : FuncData} (T : Tx K mg) (d_need_net : D_need_net P w K mg base 5) (d_is_kindling : D_is_kindling P w K mg base 5) (F : Fun K "need_kindling" "need_kindling" s_need_kindling f fd) (hm : mg "need_kindling" = some (.ref f)) :
    D_need_kindling P w K mg base 6 :=
  def_ok2 (k := 5) (n := 0) (N := N_need_kindling) (Pn := []) (M := [Sh.u, Sh.u]) (fb := b_need_kindling) F sc_need_kindling hm (F.binds (ps := ["net", "thing"]) fun _ _ _ _ _ _ us hl => match us, hl with | [_, _], _ => rfl) [Sh.s, Sh.s]
    fun cdv A outer s H E hr tk po => ⟨_, (DB.weak [] [0, 1] (DB.cons (DS.to [Sh.s, Sh.s] (DS.expr (DE.own [] d_need_net hr (fun _ => tk) rfl (DA.cons (DE.var 0) DA.nil)))) (DB.one (DS.to [Sh.s, Sh.s] (DS.ite (DT.not (DT.val (DE.own [] d_is_kindling hr (fun _ => tk) rfl (DA.cons (DE.var 0) (DA.cons (DE.var 1) DA.nil))))) (DB.one (DS.raise rfl (fun _ => tk) T.x_NoKindlings.choose_spec)) DB.nil)))))⟩
abbrev s_length_of : Stmt := topS 23
abbrev N_length_of : List Str := ["net", "lamps", "lamp"]
theorem sc_length_of : FnScope N_length_of ["net", "lamps"] (defScope s_length_of) := ⟨rfl, rfl, rfl, by decide +kernel, rfl, by decide +kernel, by decide +kernel⟩
abbrev D_length_of (P : Program) (w : World) (K : PySem.W.Frag) (mg : Str → Option Value) (base : Heap) (k : Nat) : Prop := Def P w K mg base k "length_of" ["net", "lamps"] [Sh.s, Sh.s] [Sh.u, Sh.u] Sh.s m_length_of
theorem def_length_of {P : Program} {w : World} {K : PySem.W.Frag} {mg : Str → Option Value} {base : Heap} {f : Addr} {fd : FuncData} (T : Tx K mg) (F : Fun K "length_of" "length_of" s_length_of f fd) (hm : mg "length_of" = some (.ref f)) :
    D_length_of P w K mg base 1 :=
  def_ok2 (k := 0) (n := 1) (N := N_length_of) (Pn := []) (M := [Sh.u, Sh.u, Sh.u]) (fb := b_length_of) F sc_length_of hm (F.binds (ps := ["net", "lamps"]) fun _ _ _ _ _ _ us hl => match us, hl with | [_, _], _ => rfl) [Sh.s, Sh.s, Sh.u]
    fun cdv A outer s H E hr tk po => ⟨_, (DB.one (DS.ret (DE.callB (fun _ => (cr_sum rfl)) cd_sum PyProof.Rows.boot_sum T.n_sum (DA.cons (DE.freeze (DE.comp rfl sc_length_of.nd (DI.any (DE.var 1)) (fun _ => blkOk_by (N := N_length_of) (sc := defScope s_length_of) (own := [("lamp", 2)]) (by decide +kernel)) (fun _ => pg_name (i := 2) sc_length_of.nd rfl (Or.inl rfl)) (SemG.name (by decide)) (DE.ix (DE.ix (DE.var 0) (DE.var 2)) DE.int))) DA.nil))))⟩
abbrev s_spot_in : Stmt := topS 24
abbrev N_spot_in : List Str := ["net", "lamps", "beats", "lamp"]
theorem sc_spot_in : FnScope N_spot_in ["net", "lamps", "beats"] (defScope s_spot_in) := ⟨rfl, rfl, rfl, by decide +kernel, rfl, by decide +kernel, by decide +kernel⟩
abbrev D_spot_in (P : Program) (w : World) (K : PySem.W.Frag) (mg : Str → Option Value) (base : Heap) (k : Nat) : Prop := Def P w K mg base k "spot_in" ["net", "lamps", "beats"] [Sh.s, Sh.s, Sh.s] [Sh.u, Sh.u, Sh.u] Sh.s m_spot_in
theorem def_spot_in {P : Program} {w : World} {K : PySem.W.Frag} {mg : Str → Option Value} {base : Heap} {f : Addr} {fd : FuncData} (T : Tx K mg) (F : Fun K "spot_in" "spot_in" s_spot_in f fd) (hm : mg "spot_in" = some (.ref f)) :
    D_spot_in P w K mg base 1 :=
  def_ok2 (k := 0) (n := 1) (N := N_spot_in) (Pn := []) (M := [Sh.u, Sh.u, Sh.u, Sh.u]) (fb := b_spot_in) F sc_spot_in hm (F.binds (ps := ["net", "lamps", "beats"]) fun _ _ _ _ _ _ us hl => match us, hl with | [_, _, _], _ => rfl) [Sh.s, Sh.s, Sh.s, Sh.u]
    fun cdv A outer s H E hr tk po => ⟨_, (DB.cons (DS.to [Sh.s, Sh.s, Sh.s, Sh.u] (DS.for1 3 (fun _ => po) rfl sc_spot_in.nd (DI.any (DE.var 1)) (DB.weak [] [3] (DB.cons (DS.to [Sh.s, Sh.s, Sh.s, Sh.s] (DS.ite (DT.cmp (fun _ => op_lt) o2_lt (DE.var 2) (DE.ix (DE.ix (DE.var 0) (DE.var 3)) DE.int)) (DB.one (DS.ret (DE.tup (DA.cons (DE.var 3) (DA.cons (DE.var 2) DA.nil))))) DB.nil)) (DB.one (DS.to [Sh.s, Sh.s, Sh.s, Sh.s] (DS.augS 2 sc_spot_in.nd (DE.ix (DE.ix (DE.var 0) (DE.var 3)) DE.int)))))))) (DB.one (DS.ret DE.non)))⟩
abbrev s_place_alone : Stmt := topS 25
abbrev N_place_alone : List Str := ["net", "kindling", "beat", "first", "lamp", "ahead", "ring", "found"]
theorem sc_place_alone : FnScope N_place_alone ["net", "kindling", "beat"] (defScope s_place_alone) := ⟨rfl, rfl, rfl, by decide +kernel, rfl, by decide +kernel, by decide +kernel⟩
abbrev D_place_alone (P : Program) (w : World) (K : PySem.W.Frag) (mg : Str → Option Value) (base : Heap) (k : Nat) : Prop := Def P w K mg base k "place_alone" ["net", "kindling", "beat"] [Sh.s, Sh.s, Sh.s] [Sh.u, Sh.u, Sh.u] Sh.s m_place_alone
theorem fn_place_alone {P : Program} {w : World} {K : PySem.W.Frag} {mg : Str → Option Value} {base : Heap} {f : Addr} {fd : FuncData} (T : Tx K mg) (d_need_kindling : D_need_kindling P w K mg base 6) (d_way_of : D_way_of P w K mg base 6) (d_spot_in : D_spot_in P w K mg base 6) (d_is_whole : D_is_whole P w K mg base 6) (d_length_of : D_length_of P w K mg base 6) (F : Fun K "place_alone" "place_alone" s_place_alone f fd) (hm : mg "place_alone" = some (.ref f)) :
    FnG P w K mg base (L2.CX P w) 7 f fd ["net", "kindling", "beat"] (spOf ⟨K, mg⟩ [Sh.s, Sh.s, Sh.s] [Sh.u, Sh.u, Sh.u] Sh.s m_place_alone) :=
  fn_ok2 (k := 6) (n := 5) (N := N_place_alone) (Pn := []) (M := [Sh.u, Sh.u, Sh.u, Sh.u, Sh.u, Sh.u, Sh.u, Sh.u]) (fb := b_place_alone) F sc_place_alone hm (F.binds (ps := ["net", "kindling", "beat"]) fun _ _ _ _ _ _ us hl => match us, hl with | [_, _, _], _ => rfl) [Sh.s, Sh.s, Sh.s, Sh.u, Sh.u, Sh.u, Sh.u, Sh.u]
    fun cdv A outer s H E hr tk po => ⟨_, (DB.cons (DS.to [Sh.s, Sh.s, Sh.s, Sh.u, Sh.u, Sh.u, Sh.u, Sh.u] (DS.expr (DE.own [] d_need_kindling hr (fun _ => tk) rfl (DA.cons (DE.var 0) (DA.cons (DE.var 1) DA.nil))))) (DB.cons (DS.to [Sh.s, Sh.s, Sh.s, Sh.u, Sh.u, Sh.u, Sh.u, Sh.u] (DS.ite (DW.t (DW.or (DT.not (DT.val (DE.own [] d_is_whole hr (fun _ => tk) rfl (DA.cons (DE.var 2) DA.nil)))) (DW.or1 (DT.cmp (fun _ => op_lt) o2_lt (DE.var 2) DE.int)))) (DB.one (DS.raise rfl (fun _ => tk) T.x_NoBeat.choose_spec)) DB.nil)) (DB.cons (DS.to [Sh.s, Sh.s, Sh.s, Sh.s, Sh.s, Sh.u, Sh.u, Sh.u] (DS.unp [3, 4] (fun _ => (pg_tup rfl (pgs_cons (pg_name (i := 3) sc_place_alone.nd rfl (Or.inl rfl)) (pgs_cons (pg_name (i := 4) sc_place_alone.nd rfl (Or.inl rfl)) pgs_nil)))) (DE.var 1))) (DB.cons (DS.to [Sh.s, Sh.s, Sh.s, Sh.s, Sh.s, Sh.u, Sh.u, Sh.u] (DS.ite (DT.cmp (fun _ => op_lt) o2_lt (DE.var 2) (DE.var 3)) (DB.one (DS.ret DE.non)) DB.nil)) (DB.cons (DS.to [Sh.s, Sh.s, Sh.s, Sh.s, Sh.s, Sh.s, Sh.s, Sh.u] (DS.unp [5, 6] (fun _ => (pg_tup rfl (pgs_cons (pg_name (i := 5) sc_place_alone.nd rfl (Or.inl rfl)) (pgs_cons (pg_name (i := 6) sc_place_alone.nd rfl (Or.inl rfl)) pgs_nil)))) (DE.own [] d_way_of hr (fun _ => tk) rfl (DA.cons (DE.var 0) (DA.cons (DE.var 4) DA.nil))))) (DB.cons (DS.to [Sh.s, Sh.s, Sh.s, Sh.s, Sh.s, Sh.s, Sh.s, Sh.s] (DS.set 7 sc_place_alone.nd (DE.own [] d_spot_in hr (fun _ => tk) rfl (DA.cons (DE.var 0) (DA.cons (DE.var 5) (DA.cons (DE.op (fun _ => op_sub) o2_sub (DE.var 2) (DE.var 3)) DA.nil)))))) (DB.cons (DS.to [Sh.s, Sh.s, Sh.s, Sh.s, Sh.s, Sh.s, Sh.s, Sh.s] (DS.ite (DW.t (DW.or (DT.cmp (fun _ => op_notN) o2_isnot (DE.var 7) DE.non) (DW.or1 (DT.cmpU (hu65 hr) opU_eqA o2_eqA (DE.var 6) (DE.tup DA.nil))))) (DB.one (DS.ret (DE.var 7))) DB.nil)) (DB.one (DS.ret (DE.own [] d_spot_in hr (fun _ => tk) rfl (DA.cons (DE.var 0) (DA.cons (DE.var 6) (DA.cons (DE.op (fun _ => op_mod) o2_mod (DE.op (fun _ => op_sub) o2_sub (DE.op (fun _ => op_sub) o2_sub (DE.var 2) (DE.var 3)) (DE.own [] d_length_of hr (fun _ => tk) rfl (DA.cons (DE.var 0) (DA.cons (DE.var 5) DA.nil)))) (DE.own [] d_length_of hr (fun _ => tk) rfl (DA.cons (DE.var 0) (DA.cons (DE.var 6) DA.nil)))) DA.nil)))))))))))))⟩
theorem def_place_alone {P : Program} {w : World} {K : PySem.W.Frag} {mg : Str → Option Value} {base : Heap} {f : Addr} {fd : FuncData} (T : Tx K mg) (d_need_kindling : D_need_kindling P w K mg base 6) (d_way_of : D_way_of P w K mg base 6) (d_spot_in : D_spot_in P w K mg base 6) (d_is_whole : D_is_whole P w K mg base 6) (d_length_of : D_length_of P w K mg base 6) (F : Fun K "place_alone" "place_alone" s_place_alone f fd) (hm : mg "place_alone" = some (.ref f)) :
    D_place_alone P w K mg base 7 := ⟨_, _, hm, F.kp, (F.binds (ps := ["net", "kindling", "beat"]) fun _ _ _ _ _ _ us hl => match us, hl with | [_, _, _], _ => rfl), fn_place_alone T d_need_kindling d_way_of d_spot_in d_is_whole d_length_of F hm⟩
abbrev DK_place_alone_0 (P : Program) (w : World) (K : PySem.W.Frag) (mg : Str → Option Value) (base : Heap) (k : Nat) : Prop := DefK P w K mg base k "place_alone" ["net", "kindling", "beat"] [Sh.s, Sh.s, Sh.s] [Sh.u, Sh.u, Sh.u] Sh.s m_place_alone 0 ["beat", "kindling", "net"] [2, 1, 0]
theorem defk_place_alone_0 {P : Program} {w : World} {K : PySem.W.Frag} {mg : Str → Option Value} {base : Heap} {f : Addr} {fd : FuncData} (T : Tx K mg) (d_need_kindling : D_need_kindling P w K mg base 6) (d_way_of : D_way_of P w K mg base 6) (d_spot_in : D_spot_in P w K mg base 6) (d_is_whole : D_is_whole P w K mg base 6) (d_length_of : D_length_of P w K mg base 6) (F : Fun K "place_alone" "place_alone" s_place_alone f fd) (hm : mg "place_alone" = some (.ref f)) :
    DK_place_alone_0 P w K mg base 7 := ⟨_, _, hm, F.kp, kwB_of F (fun _ _ _ _ _ _ us ws h1 h2 => match us, ws, h1, h2 with | [], [_, _, _], _, _ => rfl), fn_place_alone T d_need_kindling d_way_of d_spot_in d_is_whole d_length_of F hm⟩
abbrev s_first_lit : Stmt := topS 26
abbrev N_first_lit : List Str := ["net", "kindling", "lamp", "first", "begin", "ahead", "ring", "way", "beat"]
theorem sc_first_lit : FnScope N_first_lit ["net", "kindling", "lamp"] (defScope s_first_lit) := ⟨rfl, rfl, rfl, by decide +kernel, rfl, by decide +kernel, by decide +kernel⟩
abbrev D_first_lit (P : Program) (w : World) (K : PySem.W.Frag) (mg : Str → Option Value) (base : Heap) (k : Nat) : Prop := Def P w K mg base k "first_lit" ["net", "kindling", "lamp"] [Sh.s, Sh.s, Sh.s] [Sh.u, Sh.u, Sh.u] Sh.s m_first_lit
theorem def_first_lit {P : Program} {w : World} {K : PySem.W.Frag} {mg : Str → Option Value} {base : Heap} {f : Addr} {fd : FuncData} (T : Tx K mg) (d_way_of : D_way_of P w K mg base 6) (d_length_of : D_length_of P w K mg base 6) (F : Fun K "first_lit" "first_lit" s_first_lit f fd) (hm : mg "first_lit" = some (.ref f)) :
    D_first_lit P w K mg base 7 :=
  def_ok2 (k := 6) (n := 6) (N := N_first_lit) (Pn := []) (M := [Sh.u, Sh.u, Sh.u, Sh.u, Sh.u, Sh.u, Sh.u, Sh.u, Sh.u]) (fb := b_first_lit) F sc_first_lit hm (F.binds (ps := ["net", "kindling", "lamp"]) fun _ _ _ _ _ _ us hl => match us, hl with | [_, _, _], _ => rfl) [Sh.s, Sh.s, Sh.s, Sh.u, Sh.u, Sh.u, Sh.u, Sh.u, Sh.u]
    fun cdv A outer s H E hr tk po => ⟨_, (DB.cons (DS.to [Sh.s, Sh.s, Sh.s, Sh.s, Sh.s, Sh.u, Sh.u, Sh.u, Sh.u] (DS.unp [3, 4] (fun _ => (pg_tup rfl (pgs_cons (pg_name (i := 3) sc_first_lit.nd rfl (Or.inl rfl)) (pgs_cons (pg_name (i := 4) sc_first_lit.nd rfl (Or.inl rfl)) pgs_nil)))) (DE.var 1))) (DB.cons (DS.to [Sh.s, Sh.s, Sh.s, Sh.s, Sh.s, Sh.s, Sh.s, Sh.u, Sh.u] (DS.unp [5, 6] (fun _ => (pg_tup rfl (pgs_cons (pg_name (i := 5) sc_first_lit.nd rfl (Or.inl rfl)) (pgs_cons (pg_name (i := 6) sc_first_lit.nd rfl (Or.inl rfl)) pgs_nil)))) (DE.own [] d_way_of hr (fun _ => tk) rfl (DA.cons (DE.var 0) (DA.cons (DE.var 4) DA.nil))))) (DB.cons (DS.to [Sh.s, Sh.s, Sh.s, Sh.s, Sh.s, Sh.s, Sh.s, Sh.s, Sh.u] (DS.set 7 sc_first_lit.nd (DE.opi (fun _ => op_addA) o2_add (DE.var 5) (DE.var 6)))) (DB.cons (DS.to [Sh.s, Sh.s, Sh.s, Sh.s, Sh.s, Sh.s, Sh.s, Sh.s, Sh.u] (DS.ite (DT.cmpU (hu65 hr) opU_notin o2_notinA (DE.var 2) (DE.var 7)) (DB.one (DS.ret DE.non)) DB.nil)) (DB.cons (DS.to [Sh.s, Sh.s, Sh.s, Sh.s, Sh.s, Sh.s, Sh.s, Sh.s, Sh.s] (DS.set 8 sc_first_lit.nd (DE.opi (fun _ => op_addA) o2_add (DE.var 3) (DE.own [] d_length_of hr (fun _ => tk) rfl (DA.cons (DE.var 0) (DA.cons (DE.sl01 (DE.var 7) (DE.idxT (hu65 hr) (DE.var 7) (DE.var 2))) DA.nil)))))) (DB.one (DS.ret (DE.tup (DA.cons (DE.var 8) (DA.cons (DE.ifE (DT.cmpU (hu65 hr) opU_in o2_inA (DE.var 2) (DE.var 6)) (DE.own [] d_length_of hr (fun _ => tk) rfl (DA.cons (DE.var 0) (DA.cons (DE.var 6) DA.nil))) DE.non) DA.nil))))))))))⟩
abbrev s_lights_alone : Stmt := topS 27
abbrev N_lights_alone : List Str := ["net", "kindling", "lamp"]
theorem sc_lights_alone : FnScope N_lights_alone ["net", "kindling", "lamp"] (defScope s_lights_alone) := ⟨rfl, rfl, rfl, by decide +kernel, rfl, by decide +kernel, by decide +kernel⟩
abbrev D_lights_alone (P : Program) (w : World) (K : PySem.W.Frag) (mg : Str → Option Value) (base : Heap) (k : Nat) : Prop := Def P w K mg base k "lights_alone" ["net", "kindling", "lamp"] [Sh.s, Sh.s, Sh.s] [Sh.u, Sh.u, Sh.u] Sh.s m_lights_alone
theorem fn_lights_alone {P : Program} {w : World} {K : PySem.W.Frag} {mg : Str → Option Value} {base : Heap} {f : Addr} {fd : FuncData} (T : Tx K mg) (d_need_kindling : D_need_kindling P w K mg base 7) (d_need_lamp : D_need_lamp P w K mg base 7) (d_first_lit : D_first_lit P w K mg base 7) (F : Fun K "lights_alone" "lights_alone" s_lights_alone f fd) (hm : mg "lights_alone" = some (.ref f)) :
    FnG P w K mg base (L2.CX P w) 8 f fd ["net", "kindling", "lamp"] (spOf ⟨K, mg⟩ [Sh.s, Sh.s, Sh.s] [Sh.u, Sh.u, Sh.u] Sh.s m_lights_alone) :=
  fn_ok2 (k := 7) (n := 0) (N := N_lights_alone) (Pn := []) (M := [Sh.u, Sh.u, Sh.u]) (fb := b_lights_alone) F sc_lights_alone hm (F.binds (ps := ["net", "kindling", "lamp"]) fun _ _ _ _ _ _ us hl => match us, hl with | [_, _, _], _ => rfl) [Sh.s, Sh.s, Sh.s]
    fun cdv A outer s H E hr tk po => ⟨_, (DB.cons (DS.to [Sh.s, Sh.s, Sh.s] (DS.expr (DE.own [] d_need_kindling hr (fun _ => tk) rfl (DA.cons (DE.var 0) (DA.cons (DE.var 1) DA.nil))))) (DB.cons (DS.to [Sh.s, Sh.s, Sh.s] (DS.expr (DE.own [] d_need_lamp hr (fun _ => tk) rfl (DA.cons (DE.var 0) (DA.cons (DE.var 2) DA.nil))))) (DB.one (DS.ret (DE.own [] d_first_lit hr (fun _ => tk) rfl (DA.cons (DE.var 0) (DA.cons (DE.var 1) (DA.cons (DE.var 2) DA.nil))))))))⟩
theorem def_lights_alone {P : Program} {w : World} {K : PySem.W.Frag} {mg : Str → Option Value} {base : Heap} {f : Addr} {fd : FuncData} (T : Tx K mg) (d_need_kindling : D_need_kindling P w K mg base 7) (d_need_lamp : D_need_lamp P w K mg base 7) (d_first_lit : D_first_lit P w K mg base 7) (F : Fun K "lights_alone" "lights_alone" s_lights_alone f fd) (hm : mg "lights_alone" = some (.ref f)) :
    D_lights_alone P w K mg base 8 := ⟨_, _, hm, F.kp, (F.binds (ps := ["net", "kindling", "lamp"]) fun _ _ _ _ _ _ us hl => match us, hl with | [_, _, _], _ => rfl), fn_lights_alone T d_need_kindling d_need_lamp d_first_lit F hm⟩
abbrev DK_lights_alone_0 (P : Program) (w : World) (K : PySem.W.Frag) (mg : Str → Option Value) (base : Heap) (k : Nat) : Prop := DefK P w K mg base k "lights_alone" ["net", "kindling", "lamp"] [Sh.s, Sh.s, Sh.s] [Sh.u, Sh.u, Sh.u] Sh.s m_lights_alone 0 ["lamp", "net", "kindling"] [1, 2, 0]
theorem defk_lights_alone_0 {P : Program} {w : World} {K : PySem.W.Frag} {mg : Str → Option Value} {base : Heap} {f : Addr} {fd : FuncData} (T : Tx K mg) (d_need_kindling : D_need_kindling P w K mg base 7) (d_need_lamp : D_need_lamp P w K mg base 7) (d_first_lit : D_first_lit P w K mg base 7) (F : Fun K "lights_alone" "lights_alone" s_lights_alone f fd) (hm : mg "lights_alone" = some (.ref f)) :
    DK_lights_alone_0 P w K mg base 8 := ⟨_, _, hm, F.kp, kwB_of F (fun _ _ _ _ _ _ us ws h1 h2 => match us, ws, h1, h2 with | [], [_, _, _], _, _ => rfl), fn_lights_alone T d_need_kindling d_need_lamp d_first_lit F hm⟩
abbrev s_gap_of : Stmt := topS 28
abbrev N_gap_of : List Str := ["net", "one", "other", "ahead", "ring", "lamp", "told"]
theorem sc_gap_of : FnScope N_gap_of ["net", "one", "other"] (defScope s_gap_of) := ⟨rfl, rfl, rfl, by decide +kernel, rfl, by decide +kernel, by decide +kernel⟩
abbrev D_gap_of (P : Program) (w : World) (K : PySem.W.Frag) (mg : Str → Option Value) (base : Heap) (k : Nat) : Prop := Def P w K mg base k "gap_of" ["net", "one", "other"] [Sh.s, Sh.s, Sh.s] [Sh.u, Sh.u, Sh.u] Sh.s m_gap_of
theorem fn_gap_of {P : Program} {w : World} {K : PySem.W.Frag} {mg : Str → Option Value} {base : Heap} {f : Addr} {fd : FuncData} (T : Tx K mg) (d_need_kindling : D_need_kindling P w K mg base 7) (d_way_of : D_way_of P w K mg base 7) (d_first_lit : D_first_lit P w K mg base 7) (F : Fun K "gap_of" "gap_of" s_gap_of f fd) (hm : mg "gap_of" = some (.ref f)) :
    FnG P w K mg base (L2.CX P w) 8 f fd ["net", "one", "other"] (spOf ⟨K, mg⟩ [Sh.s, Sh.s, Sh.s] [Sh.u, Sh.u, Sh.u] Sh.s m_gap_of) :=
  fn_ok2 (k := 7) (n := 4) (N := N_gap_of) (Pn := []) (M := [Sh.u, Sh.u, Sh.u, Sh.u, Sh.u, Sh.u, Sh.u]) (fb := b_gap_of) F sc_gap_of hm (F.binds (ps := ["net", "one", "other"]) fun _ _ _ _ _ _ us hl => match us, hl with | [_, _, _], _ => rfl) [Sh.s, Sh.s, Sh.s, Sh.u, Sh.u, Sh.u, Sh.u]
    fun cdv A outer s H E hr tk po => ⟨_, (DB.cons (DS.to [Sh.s, Sh.s, Sh.s, Sh.u, Sh.u, Sh.u, Sh.u] (DS.expr (DE.own [] d_need_kindling hr (fun _ => tk) rfl (DA.cons (DE.var 0) (DA.cons (DE.var 1) DA.nil))))) (DB.cons (DS.to [Sh.s, Sh.s, Sh.s, Sh.u, Sh.u, Sh.u, Sh.u] (DS.expr (DE.own [] d_need_kindling hr (fun _ => tk) rfl (DA.cons (DE.var 0) (DA.cons (DE.var 2) DA.nil))))) (DB.cons (DS.to [Sh.s, Sh.s, Sh.s, Sh.s, Sh.s, Sh.u, Sh.u] (DS.unp [3, 4] (fun _ => (pg_tup rfl (pgs_cons (pg_name (i := 3) sc_gap_of.nd rfl (Or.inl rfl)) (pgs_cons (pg_name (i := 4) sc_gap_of.nd rfl (Or.inl rfl)) pgs_nil)))) (DE.own [] d_way_of hr (fun _ => tk) rfl (DA.cons (DE.var 0) (DA.cons (DE.ix (DE.var 1) DE.int) DA.nil))))) (DB.cons (DS.to [Sh.s, Sh.s, Sh.s, Sh.s, Sh.s, Sh.u, Sh.u] (DS.for1 5 (fun _ => po) rfl sc_gap_of.nd (DI.any (DE.opi (fun _ => op_addA) o2_add (DE.var 3) (DE.var 4))) (DB.weak [] [5, 6] (DB.cons (DS.to [Sh.s, Sh.s, Sh.s, Sh.s, Sh.s, Sh.s, Sh.s] (DS.set 6 sc_gap_of.nd (DE.own [] d_first_lit hr (fun _ => tk) rfl (DA.cons (DE.var 0) (DA.cons (DE.var 2) (DA.cons (DE.var 5) DA.nil)))))) (DB.one (DS.to [Sh.s, Sh.s, Sh.s, Sh.s, Sh.s, Sh.s, Sh.s] (DS.ite (DT.cmp (fun _ => op_notN) o2_isnot (DE.var 6) DE.non) (DB.one (DS.ret (DE.tup (DA.cons (DE.var 5) (DA.cons (DE.op (fun _ => op_sub) o2_sub (DE.ix (DE.var 6) DE.int) (DE.ix (DE.own [] d_first_lit hr (fun _ => tk) rfl (DA.cons (DE.var 0) (DA.cons (DE.var 1) (DA.cons (DE.var 5) DA.nil)))) DE.int)) DA.nil))))) DB.nil))))))) (DB.one (DS.ret DE.non))))))⟩
theorem def_gap_of {P : Program} {w : World} {K : PySem.W.Frag} {mg : Str → Option Value} {base : Heap} {f : Addr} {fd : FuncData} (T : Tx K mg) (d_need_kindling : D_need_kindling P w K mg base 7) (d_way_of : D_way_of P w K mg base 7) (d_first_lit : D_first_lit P w K mg base 7) (F : Fun K "gap_of" "gap_of" s_gap_of f fd) (hm : mg "gap_of" = some (.ref f)) :
    D_gap_of P w K mg base 8 := ⟨_, _, hm, F.kp, (F.binds (ps := ["net", "one", "other"]) fun _ _ _ _ _ _ us hl => match us, hl with | [_, _, _], _ => rfl), fn_gap_of T d_need_kindling d_way_of d_first_lit F hm⟩
abbrev DK_gap_of_0 (P : Program) (w : World) (K : PySem.W.Frag) (mg : Str → Option Value) (base : Heap) (k : Nat) : Prop := DefK P w K mg base k "gap_of" ["net", "one", "other"] [Sh.s, Sh.s, Sh.s] [Sh.u, Sh.u, Sh.u] Sh.s m_gap_of 0 ["other", "one", "net"] [2, 1, 0]
theorem defk_gap_of_0 {P : Program} {w : World} {K : PySem.W.Frag} {mg : Str → Option Value} {base : Heap} {f : Addr} {fd : FuncData} (T : Tx K mg) (d_need_kindling : D_need_kindling P w K mg base 7) (d_way_of : D_way_of P w K mg base 7) (d_first_lit : D_first_lit P w K mg base 7) (F : Fun K "gap_of" "gap_of" s_gap_of f fd) (hm : mg "gap_of" = some (.ref f)) :
    DK_gap_of_0 P w K mg base 8 := ⟨_, _, hm, F.kp, kwB_of F (fun _ _ _ _ _ _ us ws h1 h2 => match us, ws, h1, h2 with | [], [_, _, _], _, _ => rfl), fn_gap_of T d_need_kindling d_way_of d_first_lit F hm⟩
abbrev s__law_jar : Stmt := topS 30
abbrev N__law_jar : List Str := ["cell", "k"]
theorem sc__law_jar : FnScope N__law_jar ["cell", "k"] (defScope s__law_jar) := ⟨rfl, rfl, rfl, by decide +kernel, rfl, by decide +kernel, by decide +kernel⟩
abbrev D__law_jar (P : Program) (w : World) (K : PySem.W.Frag) (mg : Str → Option Value) (base : Heap) (k : Nat) : Prop := Def P w K mg base k "_law_jar" ["cell", "k"] [Sh.s, Sh.s] [Sh.u, Sh.u] (Sh.l Sh.s) m__law_jar
theorem def__law_jar {P : Program} {w : World} {K : PySem.W.Frag} {mg : Str → Option Value} {base : Heap} {f : Addr} {fd : FuncData} (T : Tx K mg) (F : Fun K "_law_jar" "_law_jar" s__law_jar f fd) (hm : mg "_law_jar" = some (.ref f)) :
    D__law_jar P w K mg base 1 :=
  def_ok2 (k := 0) (n := 0) (N := N__law_jar) (Pn := []) (M := [Sh.u, Sh.u]) (fb := b__law_jar) F sc__law_jar hm (F.binds (ps := ["cell", "k"]) fun _ _ _ _ _ _ us hl => match us, hl with | [_, _], _ => rfl) [Sh.s, Sh.s]
    fun cdv A outer s H E hr tk po => ⟨_, (DB.one (DS.ret (DE.lst (DA.cons (DE.callB (fun _ => (call_max2 rfl)) cd_max2 PyProof.Rows.boot_max T.n_max (DA.cons DE.int (DA.cons (DE.op (fun _ => op_sub) o2_sub (DE.var 0) (DE.op (fun _ => op_powW) o2_pow DE.int DE.int)) DA.nil))) (DA.cons (DE.opi (fun _ => op_addA) o2_add (DE.opi (fun _ => op_addA) o2_add (DE.op (fun _ => op_powW) o2_pow (DE.op (fun _ => op_mod) o2_mod (DE.var 0) (DE.opi (fun _ => op_addA) o2_add (DE.op (fun _ => op_powW) o2_pow DE.int DE.int) DE.int)) DE.int) (DE.op (fun _ => op_mulX) o2_mul DE.int (DE.var 1))) DE.int) (DA.cons DE.int DA.nil))))))⟩
abbrev s__law_pull : Stmt := topS 31
abbrev N__law_pull : List Str := ["jar", "many", "found"]
theorem sc__law_pull : FnScope N__law_pull ["jar", "many"] (defScope s__law_pull) := ⟨rfl, rfl, rfl, by decide +kernel, rfl, by decide +kernel, by decide +kernel⟩
abbrev D__law_pull (P : Program) (w : World) (K : PySem.W.Frag) (mg : Str → Option Value) (base : Heap) (k : Nat) : Prop := Def P w K mg base k "_law_pull" ["jar", "many"] [(Sh.l Sh.s), Sh.s] [(Sh.l Sh.s), Sh.u] Sh.s m__law_pull
theorem def__law_pull {P : Program} {w : World} {K : PySem.W.Frag} {mg : Str → Option Value} {base : Heap} {f : Addr} {fd : FuncData} (T : Tx K mg) (F : Fun K "_law_pull" "_law_pull" s__law_pull f fd) (hm : mg "_law_pull" = some (.ref f)) :
    D__law_pull P w K mg base 1 :=
  def_ok2 (k := 0) (n := 1) (N := N__law_pull) (Pn := [0]) (M := [(Sh.l Sh.s), Sh.u, Sh.u]) (fb := b__law_pull) F sc__law_pull hm (F.binds (ps := ["jar", "many"]) fun _ _ _ _ _ _ us hl => match us, hl with | [_, _], _ => rfl) [(Sh.l Sh.s), Sh.s, Sh.u]
    fun cdv A outer s H E hr tk po => ⟨_, (DB.cons (DS.to [(Sh.l Sh.s), Sh.s, Sh.u] (DS.ite (DT.cmp (fun _ => op_gt) o2_gt (DE.ix (DE.bor 0 (Sh.l Sh.s)) DE.int) DE.int) (DB.cons (DS.to [(Sh.l Sh.s), Sh.s, Sh.s] (DS.set 2 sc__law_pull.nd (DE.op (fun _ => op_mod) o2_mod (DE.ix (DE.bor 0 (Sh.l Sh.s)) DE.int) (DE.var 1)))) (DB.cons (DS.to [(Sh.l Sh.s), Sh.s, Sh.s] (DS.setI 0 (fun _ hb => pg_sub (pv 0) hb set_list) (DE.op (fun _ => op_fdivW) o2_fdiv (DE.ix (DE.bor 0 (Sh.l Sh.s)) DE.int) (DE.var 1)) DE.int)) (DB.one (DS.ret (DE.var 2))))) DB.nil)) (DB.cons (DS.to [(Sh.l Sh.s), Sh.s, Sh.u] (DS.setI 0 (fun _ hb => pg_sub (pv 0) hb set_list) (DE.opi (fun _ => op_addA) o2_add (DE.ix (DE.bor 0 (Sh.l Sh.s)) DE.int) DE.int) DE.int)) (DB.cons (DS.to [(Sh.l Sh.s), Sh.s, Sh.u] (DS.setI 0 (fun _ hb => pg_sub (pv 0) hb set_list) (DE.op (fun _ => op_mod) o2_mod (DE.opi (fun _ => op_addA) o2_add (DE.opi (fun _ => op_addA) o2_add (DE.op (fun _ => op_powW) o2_pow (DE.ix (DE.bor 0 (Sh.l Sh.s)) DE.int) DE.int) (DE.op (fun _ => op_mulX) o2_mul DE.int (DE.ix (DE.bor 0 (Sh.l Sh.s)) DE.int))) DE.int) (DE.opi (fun _ => op_addA) o2_add (DE.op (fun _ => op_powW) o2_pow DE.int DE.int) DE.int)) DE.int)) (DB.one (DS.ret (DE.op (fun _ => op_mod) o2_mod (DE.op (fun _ => op_fdivW) o2_fdiv (DE.ix (DE.bor 0 (Sh.l Sh.s)) DE.int) (DE.op (fun _ => op_powW) o2_pow DE.int DE.int)) (DE.var 1)))))))⟩
abbrev s__law_cells : Stmt := topS 32
abbrev N__law_cells : List Str := ["script", "most"]
theorem sc__law_cells : FnScope N__law_cells ["script", "most"] (defScope s__law_cells) := ⟨rfl, rfl, rfl, by decide +kernel, rfl, by decide +kernel, by decide +kernel⟩
abbrev D__law_cells (P : Program) (w : World) (K : PySem.W.Frag) (mg : Str → Option Value) (base : Heap) (k : Nat) : Prop := Def P w K mg base k "_law_cells" ["script", "most"] [Sh.s, Sh.s] [Sh.u, Sh.u] Sh.s m__law_cells
theorem def__law_cells {P : Program} {w : World} {K : PySem.W.Frag} {mg : Str → Option Value} {base : Heap} {f : Addr} {fd : FuncData} (T : Tx K mg) (F : Fun K "_law_cells" "_law_cells" s__law_cells f fd) (hm : mg "_law_cells" = some (.ref f)) :
    D__law_cells P w K mg base 1 :=
  def_ok2 (k := 0) (n := 0) (N := N__law_cells) (Pn := []) (M := [Sh.u, Sh.u]) (fb := b__law_cells) F sc__law_cells hm (F.binds (ps := ["script", "most"]) fun _ _ _ _ _ _ us hl => match us, hl with | [_, _], _ => rfl) [Sh.s, Sh.s]
    fun cdv A outer s H E hr tk po => ⟨_, (DB.one (DS.ret (DE.opi (fun _ => op_addA) o2_add (DE.sl01 (DE.var 0) (DE.var 1)) (DE.freeze (DE.repL (DE.lst (DA.cons DE.int DA.nil)) (DE.callT (fun _ => call_int1) cd_int PyProof.Rows.boot_int T.n_int (DA.cons (DE.cmpU (hu65 hr) opU_eqA o2_eqA (DE.var 0) (DE.freeze (DE.lst DA.nil))) DA.nil)))))))⟩
abbrev s__law_next : Stmt := topS 33
abbrev N__law_next : List Str := ["jar", "many", "k", "kind", "some", "there"]
theorem sc__law_next : FnScope N__law_next ["jar", "many", "k", "kind"] (defScope s__law_next) := ⟨rfl, rfl, rfl, by decide +kernel, rfl, by decide +kernel, by decide +kernel⟩
abbrev D__law_next (P : Program) (w : World) (K : PySem.W.Frag) (mg : Str → Option Value) (base : Heap) (k : Nat) : Prop := Def P w K mg base k "_law_next" ["jar", "many", "k", "kind"] [(Sh.l Sh.s), Sh.s, Sh.s, Sh.s] [(Sh.l Sh.s), Sh.u, Sh.u, Sh.u] Sh.s m__law_next
theorem def__law_next {P : Program} {w : World} {K : PySem.W.Frag} {mg : Str → Option Value} {base : Heap} {f : Addr} {fd : FuncData} (T : Tx K mg) (d__law_pull : D__law_pull P w K mg base 1) (F : Fun K "_law_next" "_law_next" s__law_next f fd) (hm : mg "_law_next" = some (.ref f)) :
    D__law_next P w K mg base 2 :=
  def_ok2 (k := 1) (n := 2) (N := N__law_next) (Pn := [0]) (M := [(Sh.l Sh.s), Sh.u, Sh.u, Sh.u, Sh.u, Sh.u]) (fb := b__law_next) F sc__law_next hm (F.binds (ps := ["jar", "many", "k", "kind"]) fun _ _ _ _ _ _ us hl => match us, hl with | [_, _, _, _], _ => rfl) [(Sh.l Sh.s), Sh.s, Sh.s, Sh.s, Sh.u, Sh.u]
    fun cdv A outer s H E hr tk po => ⟨_, (DB.cons (DS.to [(Sh.l Sh.s), Sh.s, Sh.s, Sh.s, Sh.s, Sh.u] (DS.set 4 sc__law_next.nd (DE.freeze (DE.lst (DA.cons (DE.op (fun _ => op_sub) o2_sub (DE.own [(0, 0)] d__law_pull hr (fun _ => tk) rfl (DA.cons (DE.bor 0 (Sh.l Sh.s)) (DA.cons (DE.opi (fun _ => op_addA) o2_add (DE.var 1) DE.int) DA.nil))) DE.int) (DA.cons (DE.op (fun _ => op_mod) o2_mod (DE.opi (fun _ => op_addA) o2_add (DE.var 2) DE.int) (DE.var 1)) (DA.cons (DE.own [(0, 0)] d__law_pull hr (fun _ => tk) rfl (DA.cons (DE.bor 0 (Sh.l Sh.s)) (DA.cons (DE.opi (fun _ => op_addA) o2_add (DE.var 2) DE.int) DA.nil))) (DA.cons (DE.opi (fun _ => op_addA) o2_add (DE.var 2) DE.int) DA.nil)))))))) (DB.cons (DS.to [(Sh.l Sh.s), Sh.s, Sh.s, Sh.s, Sh.s, Sh.s] (DS.set 5 sc__law_next.nd (DE.ix (DE.var 4) (DE.var 3)))) (DB.one (DS.ret (DE.ifE (DW.t (DW.or (DT.cmp (fun _ => op_lt) o2_lt (DE.var 5) DE.int) (DW.or1 (DT.cmp (fun _ => op_ge) o2_ge (DE.var 5) (DE.var 1))))) DE.non (DE.var 5))))))⟩
abbrev s__law_net : Stmt := topS 34
abbrev N__law_net : List Str := ["jar", "wide", "many", "kind", "size", "found", "k"]
theorem sc__law_net : FnScope N__law_net ["jar", "wide"] (defScope s__law_net) := ⟨rfl, rfl, rfl, by decide +kernel, rfl, by decide +kernel, by decide +kernel⟩
abbrev D__law_net (P : Program) (w : World) (K : PySem.W.Frag) (mg : Str → Option Value) (base : Heap) (k : Nat) : Prop := Def P w K mg base k "_law_net" ["jar", "wide"] [(Sh.l Sh.s), Sh.s] [(Sh.l Sh.s), Sh.u] Sh.s m__law_net
theorem def__law_net {P : Program} {w : World} {K : PySem.W.Frag} {mg : Str → Option Value} {base : Heap} {f : Addr} {fd : FuncData} (T : Tx K mg) (d__law_pull : D__law_pull P w K mg base 2) (d__law_next : D__law_next P w K mg base 2) (F : Fun K "_law_net" "_law_net" s__law_net f fd) (hm : mg "_law_net" = some (.ref f)) :
    D__law_net P w K mg base 3 :=
  def_ok2 (k := 2) (n := 5) (N := N__law_net) (Pn := [0]) (M := [(Sh.l Sh.s), Sh.u, Sh.u, Sh.u, Sh.u, Sh.u, Sh.u]) (fb := b__law_net) F sc__law_net hm (F.binds (ps := ["jar", "wide"]) fun _ _ _ _ _ _ us hl => match us, hl with | [_, _], _ => rfl) [(Sh.l Sh.s), Sh.s, Sh.u, Sh.u, Sh.u, Sh.u, Sh.u]
    fun cdv A outer s H E hr tk po => ⟨_, (DB.cons (DS.to [(Sh.l Sh.s), Sh.s, Sh.s, Sh.u, Sh.u, Sh.u, Sh.u] (DS.set 2 sc__law_net.nd (DE.ix (DE.freeze (DE.lst (DA.cons (DE.opi (fun _ => op_addA) o2_add DE.int (DE.own [(0, 0)] d__law_pull hr (fun _ => tk) rfl (DA.cons (DE.bor 0 (Sh.l Sh.s)) (DA.cons DE.int DA.nil)))) (DA.cons (DE.opi (fun _ => op_addA) o2_add DE.int (DE.own [(0, 0)] d__law_pull hr (fun _ => tk) rfl (DA.cons (DE.bor 0 (Sh.l Sh.s)) (DA.cons DE.int DA.nil)))) DA.nil)))) (DE.own [(0, 0)] d__law_pull hr (fun _ => tk) rfl (DA.cons (DE.bor 0 (Sh.l Sh.s)) (DA.cons DE.int DA.nil)))))) (DB.cons (DS.to [(Sh.l Sh.s), Sh.s, Sh.s, Sh.s, Sh.u, Sh.u, Sh.u] (DS.set 3 sc__law_net.nd (DE.own [(0, 0)] d__law_pull hr (fun _ => tk) rfl (DA.cons (DE.bor 0 (Sh.l Sh.s)) (DA.cons DE.int DA.nil))))) (DB.cons (DS.to [(Sh.l Sh.s), Sh.s, Sh.s, Sh.s, Sh.s, Sh.u, Sh.u] (DS.set 4 sc__law_net.nd (DE.ix (DE.freeze (DE.lst (DA.cons DE.int (DA.cons DE.int (DA.cons (DE.var 1) DA.nil))))) (DE.own [(0, 0)] d__law_pull hr (fun _ => tk) rfl (DA.cons (DE.bor 0 (Sh.l Sh.s)) (DA.cons DE.int DA.nil)))))) (DB.cons (DS.to [(Sh.l Sh.s), Sh.s, Sh.s, Sh.s, Sh.s, (Sh.l Sh.s), Sh.u] (DS.set 5 sc__law_net.nd (DE.lst DA.nil))) (DB.cons (DS.to [(Sh.l Sh.s), Sh.s, Sh.s, Sh.s, Sh.s, (Sh.l Sh.s), Sh.u] (DS.for1 6 (fun _ => po) rfl sc__law_net.nd (DI.rng1 T.n_range (DA.cons (DE.var 2) DA.nil)) (DB.weak [] [6] (DB.one (DS.to [(Sh.l Sh.s), Sh.s, Sh.s, Sh.s, Sh.s, (Sh.l Sh.s), Sh.s] (DS.app 5 (DE.tup (DA.cons (DE.opi (fun _ => op_addA) o2_add DE.int (DE.own [(0, 0)] d__law_pull hr (fun _ => tk) rfl (DA.cons (DE.bor 0 (Sh.l Sh.s)) (DA.cons (DE.var 4) DA.nil)))) (DA.cons (DE.own [(0, 0)] d__law_next hr (fun _ => tk) rfl (DA.cons (DE.bor 0 (Sh.l Sh.s)) (DA.cons (DE.var 2) (DA.cons (DE.var 6) (DA.cons (DE.var 3) DA.nil))))) DA.nil))))))))) (DB.one (DS.ret (DE.callT (fun _ => call_tupQ) cd_tupOf PyProof.Rows.boot_tuple T.n_tuple (DA.cons (DE.bor 5 (Sh.l Sh.s)) DA.nil)))))))))⟩
abbrev s__law_kind : Stmt := topS 35
abbrev N__law_kind : List Str := ["caught", "some", "words"]
theorem sc__law_kind : FnScope N__law_kind ["caught"] (defScope s__law_kind) := ⟨rfl, rfl, rfl, by decide +kernel, rfl, by decide +kernel, by decide +kernel⟩
abbrev D__law_kind (P : Program) (w : World) (K : PySem.W.Frag) (mg : Str → Option Value) (base : Heap) (k : Nat) : Prop := DefN P w K mg base k "_law_kind" ["caught"] [Sh.s] [Sh.u] Sh.s m__law_kind
theorem def__law_kind {P : Program} {w : World} {K : PySem.W.Frag} {mg : Str → Option Value} {base : Heap} {f : Addr} {fd : FuncData} (T : Tx K mg) (F : Fun K "_law_kind" "_law_kind" s__law_kind f fd) (hm : mg "_law_kind" = some (.ref f)) :
    D__law_kind P w K mg base 1 :=
  def_okN (k := 0) (n := 2) (N := N__law_kind) (Pn := []) (M := [Sh.u, Sh.u, Sh.u]) (fb := b__law_kind) F sc__law_kind hm (F.binds (ps := ["caught"]) fun _ _ _ _ _ _ us hl => match us, hl with | [_], _ => rfl) [Sh.s, Sh.u, Sh.u]
    fun cdv A outer s H E hr tk po => ⟨_, (DB.cons (DS.to [Sh.s, (Sh.l Sh.s), Sh.u] (DS.set 1 sc__law_kind.nd (DE.lst (DA.cons (DE.isx (tbl := [("NoBeat", false), ("NoKindlings", false), ("NoLamp", false), ("NoNet", true)]) T.n_isinstance (kl_own T.m_NoNet.choose_spec) (TbOk.cons (fun C h => ⟨T.ec_NoBeat C h, (T.is_NoBeat_NoNet C _ h T.m_NoNet.choose_spec)⟩) (TbOk.cons (fun C h => ⟨T.ec_NoKindlings C h, (T.is_NoKindlings_NoNet C _ h T.m_NoNet.choose_spec)⟩) (TbOk.cons (fun C h => ⟨T.ec_NoLamp C h, (T.is_NoLamp_NoNet C _ h T.m_NoNet.choose_spec)⟩) (TbOk.cons (fun C h => ⟨T.ec_NoNet C h, (T.is_NoNet_NoNet C _ h T.m_NoNet.choose_spec)⟩) TbOk.nil)))) (DE.var 0)) (DA.cons (DE.isx (tbl := [("NoBeat", false), ("NoKindlings", true), ("NoLamp", false), ("NoNet", false)]) T.n_isinstance (kl_own T.m_NoKindlings.choose_spec) (TbOk.cons (fun C h => ⟨T.ec_NoBeat C h, (T.is_NoBeat_NoKindlings C _ h T.m_NoKindlings.choose_spec)⟩) (TbOk.cons (fun C h => ⟨T.ec_NoKindlings C h, (T.is_NoKindlings_NoKindlings C _ h T.m_NoKindlings.choose_spec)⟩) (TbOk.cons (fun C h => ⟨T.ec_NoLamp C h, (T.is_NoLamp_NoKindlings C _ h T.m_NoKindlings.choose_spec)⟩) (TbOk.cons (fun C h => ⟨T.ec_NoNet C h, (T.is_NoNet_NoKindlings C _ h T.m_NoKindlings.choose_spec)⟩) TbOk.nil)))) (DE.var 0)) (DA.cons (DE.isx (tbl := [("NoBeat", true), ("NoKindlings", false), ("NoLamp", false), ("NoNet", false)]) T.n_isinstance (kl_own T.m_NoBeat.choose_spec) (TbOk.cons (fun C h => ⟨T.ec_NoBeat C h, (T.is_NoBeat_NoBeat C _ h T.m_NoBeat.choose_spec)⟩) (TbOk.cons (fun C h => ⟨T.ec_NoKindlings C h, (T.is_NoKindlings_NoBeat C _ h T.m_NoBeat.choose_spec)⟩) (TbOk.cons (fun C h => ⟨T.ec_NoLamp C h, (T.is_NoLamp_NoBeat C _ h T.m_NoBeat.choose_spec)⟩) (TbOk.cons (fun C h => ⟨T.ec_NoNet C h, (T.is_NoNet_NoBeat C _ h T.m_NoBeat.choose_spec)⟩) TbOk.nil)))) (DE.var 0)) DA.nil)))))) (DB.cons (DS.to [Sh.s, (Sh.l Sh.s), Sh.u] (DS.app 1 (DE.isx (tbl := [("NoBeat", false), ("NoKindlings", false), ("NoLamp", true), ("NoNet", false)]) T.n_isinstance (kl_own T.m_NoLamp.choose_spec) (TbOk.cons (fun C h => ⟨T.ec_NoBeat C h, (T.is_NoBeat_NoLamp C _ h T.m_NoLamp.choose_spec)⟩) (TbOk.cons (fun C h => ⟨T.ec_NoKindlings C h, (T.is_NoKindlings_NoLamp C _ h T.m_NoLamp.choose_spec)⟩) (TbOk.cons (fun C h => ⟨T.ec_NoLamp C h, (T.is_NoLamp_NoLamp C _ h T.m_NoLamp.choose_spec)⟩) (TbOk.cons (fun C h => ⟨T.ec_NoNet C h, (T.is_NoNet_NoLamp C _ h T.m_NoLamp.choose_spec)⟩) TbOk.nil)))) (DE.var 0)))) (DB.cons (DS.to [Sh.s, (Sh.l Sh.s), Sh.u] (DS.ite (DW.t (DW.or (DT.val (DE.isxT (tbl := [("NoBeat", false), ("NoKindlings", false), ("NoLamp", false), ("NoNet", false)]) T.n_isinstance (Kls.cls (ys := ["NoFlame", "NoNumber", "NoPart", "NoRing", "NoText"]) (.cons (kl_own T.m_NoFlame.choose_spec) (.cons (kl_own T.m_NoNumber.choose_spec) (.cons (kl_own T.m_NoPart.choose_spec) (.cons (kl_own T.m_NoRing.choose_spec) (.cons (kl_own T.m_NoText.choose_spec) .nil)))))) (fun _ => (pa_cons (kl_pe (kl_own T.m_NoFlame.choose_spec) rfl) (pa_cons (kl_pe (kl_own T.m_NoNumber.choose_spec) rfl) (pa_cons (kl_pe (kl_own T.m_NoPart.choose_spec) rfl) (pa_cons (kl_pe (kl_own T.m_NoRing.choose_spec) rfl) (pa_cons (kl_pe (kl_own T.m_NoText.choose_spec) rfl) pa_nil)))))) (TbAny.cons (fun C h => ⟨T.ec_NoBeat C h, (kitAny_cons (T.is_NoBeat_NoFlame C _ h T.m_NoFlame.choose_spec) (fun _ => (kitAny_cons (T.is_NoBeat_NoNumber C _ h T.m_NoNumber.choose_spec) (fun _ => (kitAny_cons (T.is_NoBeat_NoPart C _ h T.m_NoPart.choose_spec) (fun _ => (kitAny_cons (T.is_NoBeat_NoRing C _ h T.m_NoRing.choose_spec) (fun _ => (kitAny_cons (T.is_NoBeat_NoText C _ h T.m_NoText.choose_spec) (fun _ => kitAny_nil) (fun z => nomatch z))) (fun z => nomatch z))) (fun z => nomatch z))) (fun z => nomatch z))) (fun z => nomatch z))⟩) (TbAny.cons (fun C h => ⟨T.ec_NoKindlings C h, (kitAny_cons (T.is_NoKindlings_NoFlame C _ h T.m_NoFlame.choose_spec) (fun _ => (kitAny_cons (T.is_NoKindlings_NoNumber C _ h T.m_NoNumber.choose_spec) (fun _ => (kitAny_cons (T.is_NoKindlings_NoPart C _ h T.m_NoPart.choose_spec) (fun _ => (kitAny_cons (T.is_NoKindlings_NoRing C _ h T.m_NoRing.choose_spec) (fun _ => (kitAny_cons (T.is_NoKindlings_NoText C _ h T.m_NoText.choose_spec) (fun _ => kitAny_nil) (fun z => nomatch z))) (fun z => nomatch z))) (fun z => nomatch z))) (fun z => nomatch z))) (fun z => nomatch z))⟩) (TbAny.cons (fun C h => ⟨T.ec_NoLamp C h, (kitAny_cons (T.is_NoLamp_NoFlame C _ h T.m_NoFlame.choose_spec) (fun _ => (kitAny_cons (T.is_NoLamp_NoNumber C _ h T.m_NoNumber.choose_spec) (fun _ => (kitAny_cons (T.is_NoLamp_NoPart C _ h T.m_NoPart.choose_spec) (fun _ => (kitAny_cons (T.is_NoLamp_NoRing C _ h T.m_NoRing.choose_spec) (fun _ => (kitAny_cons (T.is_NoLamp_NoText C _ h T.m_NoText.choose_spec) (fun _ => kitAny_nil) (fun z => nomatch z))) (fun z => nomatch z))) (fun z => nomatch z))) (fun z => nomatch z))) (fun z => nomatch z))⟩) (TbAny.cons (fun C h => ⟨T.ec_NoNet C h, (kitAny_cons (T.is_NoNet_NoFlame C _ h T.m_NoFlame.choose_spec) (fun _ => (kitAny_cons (T.is_NoNet_NoNumber C _ h T.m_NoNumber.choose_spec) (fun _ => (kitAny_cons (T.is_NoNet_NoPart C _ h T.m_NoPart.choose_spec) (fun _ => (kitAny_cons (T.is_NoNet_NoRing C _ h T.m_NoRing.choose_spec) (fun _ => (kitAny_cons (T.is_NoNet_NoText C _ h T.m_NoText.choose_spec) (fun _ => kitAny_nil) (fun z => nomatch z))) (fun z => nomatch z))) (fun z => nomatch z))) (fun z => nomatch z))) (fun z => nomatch z))⟩) TbAny.nil)))) (DE.var 0))) (DW.or1 (DT.cmpU (hu65N hr) opU_neA o2_neA (DE.count (hu65N hr) (DE.bor 1 (Sh.l Sh.s)) DE.bl) DE.int)))) (DB.one (DS.ret DE.str)) DB.nil)) (DB.cons (DS.to [Sh.s, (Sh.l Sh.s), Sh.s] (DS.set 2 sc__law_kind.nd (DE.freeze (DE.lst (DA.cons DE.str (DA.cons DE.str (DA.cons DE.str (DA.cons DE.str DA.nil)))))))) (DB.one (DS.ret (DE.ifE (DT.val (DE.isx (tbl := [("NoBeat", true), ("NoKindlings", true), ("NoLamp", true), ("NoNet", true)]) T.n_isinstance (kl_ve T.n_ValueError) (TbOk.cons (fun C h => ⟨T.ec_NoBeat C h, (T.iv_NoBeat C h)⟩) (TbOk.cons (fun C h => ⟨T.ec_NoKindlings C h, (T.iv_NoKindlings C h)⟩) (TbOk.cons (fun C h => ⟨T.ec_NoLamp C h, (T.iv_NoLamp C h)⟩) (TbOk.cons (fun C h => ⟨T.ec_NoNet C h, (T.iv_NoNet C h)⟩) TbOk.nil)))) (DE.var 0))) (DE.ix (DE.var 2) (DE.idx (hu65N hr) (DE.bor 1 (Sh.l Sh.s)) DE.bl)) DE.str)))))))⟩
abbrev s__law_told : Stmt := topS 36
abbrev N__law_told : List Str := ["door", "land", "start", "second", "caught"]
theorem sc__law_told : FnScope N__law_told ["door", "land", "start", "second"] (defScope s__law_told) := ⟨rfl, rfl, rfl, by decide +kernel, rfl, by decide +kernel, by decide +kernel⟩
abbrev D__law_told (P : Program) (w : World) (K : PySem.W.Frag) (mg : Str → Option Value) (base : Heap) (k : Nat) : Prop := Def P w K mg base k "_law_told" ["door", "land", "start", "second"] [Sh.s, Sh.s, Sh.s, Sh.s] [Sh.u, Sh.u, Sh.u, Sh.u] Sh.s m__law_told
theorem def__law_told {P : Program} {w : World} {K : PySem.W.Frag} {mg : Str → Option Value} {base : Heap} {f : Addr} {fd : FuncData} (T : Tx K mg) (d_gap_of : D_gap_of P w K mg base 8) (d__law_kind : D__law_kind P w K mg base 8) (d_place_alone : D_place_alone P w K mg base 8) (d_lights_alone : D_lights_alone P w K mg base 8) (F : Fun K "_law_told" "_law_told" s__law_told f fd) (hm : mg "_law_told" = some (.ref f)) :
    D__law_told P w K mg base 9 :=
  def_ok2 (k := 8) (n := 1) (N := N__law_told) (Pn := []) (M := [Sh.u, Sh.u, Sh.u, Sh.u, Sh.u]) (fb := b__law_told) F sc__law_told hm (F.binds (ps := ["door", "land", "start", "second"]) fun _ _ _ _ _ _ us hl => match us, hl with | [_, _, _, _], _ => rfl) [Sh.s, Sh.s, Sh.s, Sh.s, Sh.u]
    fun cdv A outer s H E hr tk po => ⟨_, (DB.weak [] [0, 1, 2, 3] (DB.one (DS.to [Sh.s, Sh.s, Sh.s, Sh.s, Sh.u] (DS.tryB (i := 4) (l := ["NoBeat", "NoKindlings", "NoLamp", "NoNet"]) (fun _ => rfl) (fun _ => rfl) (fun _ => rfl) sc__law_told.nd (fun _ => ⟨rfl, by decide, .inl T.m_EmberError.choose_spec⟩) (ExOk.cons (fun C h => T.ex_NoBeat_EmberError C _ h T.m_EmberError.choose_spec) (ExOk.cons (fun C h => T.ex_NoKindlings_EmberError C _ h T.m_EmberError.choose_spec) (ExOk.cons (fun C h => T.ex_NoLamp_EmberError C _ h T.m_EmberError.choose_spec) (ExOk.cons (fun C h => T.ex_NoNet_EmberError C _ h T.m_EmberError.choose_spec) ExOk.nil)))) (DXB.fin [Sh.s, Sh.s, Sh.s, Sh.s, Sh.u] (DXB.ifRet (fun W => (DT.cmpU (hu65 hr) opU_eqA o2_eqA (DE.var 0) DE.int)) (DX.ret (fun W => (DE.freeze (DE.lst (DA.cons (DE.own [] d_place_alone hr takesT rfl (DA.cons (DE.var 1) (DA.cons (DE.var 2) (DA.cons (DE.var 3) DA.nil)))) DA.nil))))) (DXB.ifRet (fun W => (DT.cmpU (hu65 hr) opU_eqA o2_eqA (DE.var 0) DE.int)) (DX.ret (fun W => (DE.freeze (DE.lst (DA.cons (DE.own [] d_lights_alone hr takesT rfl (DA.cons (DE.var 1) (DA.cons (DE.var 2) (DA.cons (DE.var 3) DA.nil)))) DA.nil))))) (DXB.one (DX.ret (fun W => (DE.freeze (DE.lst (DA.cons (DE.own [] d_gap_of hr takesT rfl (DA.cons (DE.var 1) (DA.cons (DE.var 2) (DA.cons (DE.var 3) DA.nil)))) DA.nil))))))))) (fun a => (DB.one (DS.ret (DE.ownN [] d__law_kind (hr.n.mark _) (fun _ => takes0) rfl (DA.cons (DE.var 4) DA.nil)))))))))⟩
abbrev s__law_named : Stmt := topS 37
abbrev N__law_named : List Str := ["door", "land", "start", "second"]
theorem sc__law_named : FnScope N__law_named ["door", "land", "start", "second"] (defScope s__law_named) := ⟨rfl, rfl, rfl, by decide +kernel, rfl, by decide +kernel, by decide +kernel⟩
abbrev D__law_named (P : Program) (w : World) (K : PySem.W.Frag) (mg : Str → Option Value) (base : Heap) (k : Nat) : Prop := Def P w K mg base k "_law_named" ["door", "land", "start", "second"] [Sh.s, Sh.s, Sh.s, Sh.s] [Sh.u, Sh.u, Sh.u, Sh.u] (Sh.l Sh.s) m__law_named
theorem def__law_named {P : Program} {w : World} {K : PySem.W.Frag} {mg : Str → Option Value} {base : Heap} {f : Addr} {fd : FuncData} (T : Tx K mg) (dk_place_alone_0 : DK_place_alone_0 P w K mg base 8) (dk_lights_alone_0 : DK_lights_alone_0 P w K mg base 8) (dk_gap_of_0 : DK_gap_of_0 P w K mg base 8) (F : Fun K "_law_named" "_law_named" s__law_named f fd) (hm : mg "_law_named" = some (.ref f)) :
    D__law_named P w K mg base 9 :=
  def_ok2 (k := 8) (n := 0) (N := N__law_named) (Pn := []) (M := [Sh.u, Sh.u, Sh.u, Sh.u]) (fb := b__law_named) F sc__law_named hm (F.binds (ps := ["door", "land", "start", "second"]) fun _ _ _ _ _ _ us hl => match us, hl with | [_, _, _, _], _ => rfl) [Sh.s, Sh.s, Sh.s, Sh.s]
    fun cdv A outer s H E hr tk po => ⟨_, (DB.cons (DS.to [Sh.s, Sh.s, Sh.s, Sh.s] (DS.ite (DT.cmpU (hu65 hr) opU_eqA o2_eqA (DE.var 0) DE.int) (DB.one (DS.ret (DE.lst (DA.cons (DE.ownK0 dk_place_alone_0 hr (fun _ => tk) rfl (DK.cons (DE.var 3) (DK.cons (DE.var 2) (DK.cons (DE.var 1) DK.nil)))) DA.nil)))) DB.nil)) (DB.cons (DS.to [Sh.s, Sh.s, Sh.s, Sh.s] (DS.ite (DT.cmpU (hu65 hr) opU_eqA o2_eqA (DE.var 0) DE.int) (DB.one (DS.ret (DE.lst (DA.cons (DE.ownK0 dk_lights_alone_0 hr (fun _ => tk) rfl (DK.cons (DE.var 3) (DK.cons (DE.var 1) (DK.cons (DE.var 2) DK.nil)))) DA.nil)))) DB.nil)) (DB.one (DS.ret (DE.lst (DA.cons (DE.ownK0 dk_gap_of_0 hr (fun _ => tk) rfl (DK.cons (DE.var 3) (DK.cons (DE.var 2) (DK.cons (DE.var 1) DK.nil)))) DA.nil))))))⟩
abbrev s__law_no_kindling : Stmt := topS 38
abbrev N__law_no_kindling : List Str := ["jar", "land", "some"]
theorem sc__law_no_kindling : FnScope N__law_no_kindling ["jar", "land"] (defScope s__law_no_kindling) := ⟨rfl, rfl, rfl, by decide +kernel, rfl, by decide +kernel, by decide +kernel⟩
abbrev D__law_no_kindling (P : Program) (w : World) (K : PySem.W.Frag) (mg : Str → Option Value) (base : Heap) (k : Nat) : Prop := Def P w K mg base k "_law_no_kindling" ["jar", "land"] [(Sh.l Sh.s), Sh.s] [(Sh.l Sh.s), Sh.u] Sh.s m__law_no_kindling
theorem def__law_no_kindling {P : Program} {w : World} {K : PySem.W.Frag} {mg : Str → Option Value} {base : Heap} {f : Addr} {fd : FuncData} (T : Tx K mg) (d__law_pull : D__law_pull P w K mg base 1) (F : Fun K "_law_no_kindling" "_law_no_kindling" s__law_no_kindling f fd) (hm : mg "_law_no_kindling" = some (.ref f)) :
    D__law_no_kindling P w K mg base 2 :=
  def_ok2 (k := 1) (n := 1) (N := N__law_no_kindling) (Pn := [0]) (M := [(Sh.l Sh.s), Sh.u, Sh.u]) (fb := b__law_no_kindling) F sc__law_no_kindling hm (F.binds (ps := ["jar", "land"]) fun _ _ _ _ _ _ us hl => match us, hl with | [_, _], _ => rfl) [(Sh.l Sh.s), Sh.s, Sh.u]
    fun cdv A outer s H E hr tk po => ⟨_, (DB.cons (DS.to [(Sh.l Sh.s), Sh.s, Sh.s] (DS.set 2 sc__law_no_kindling.nd (DE.freeze (DE.lst (DA.cons DE.non (DA.cons DE.int (DA.cons DE.str (DA.cons (DE.tup DA.nil) (DA.cons (DE.freeze (DE.lst DA.nil)) (DA.cons DE.dct0 (DA.cons (DE.tup (DA.cons DE.int DA.nil)) (DA.cons (DE.freeze (DE.lst (DA.cons DE.int (DA.cons DE.int DA.nil)))) (DA.cons (DE.tup (DA.cons DE.int (DA.cons DE.int (DA.cons DE.int DA.nil)))) (DA.cons (DE.tup (DA.cons (DE.neg DE.int) (DA.cons DE.int DA.nil))) (DA.cons (DE.tup (DA.cons DE.int (DA.cons (DE.neg DE.int) DA.nil))) (DA.cons (DE.tup (DA.cons DE.int (DA.cons (DE.callB (fun _ => call_lenA) cd_len PySem.boot_len T.n_len (DA.cons (DE.var 1) DA.nil)) DA.nil))) (DA.cons (DE.tup (DA.cons DE.bl (DA.cons DE.int DA.nil))) (DA.cons (DE.tup (DA.cons DE.int (DA.cons DE.bl DA.nil))) DA.nil)))))))))))))))))) (DB.cons (DS.to [(Sh.l Sh.s), Sh.s, Sh.s] (DS.set 2 sc__law_no_kindling.nd (DE.opi (fun _ => op_addA) o2_add (DE.var 2) (DE.freeze (DE.lst (DA.cons (DE.tup (DA.cons DE.int (DA.cons DE.non DA.nil))) (DA.cons (DE.tup (DA.cons DE.str (DA.cons DE.int DA.nil))) (DA.cons (DE.tup (DA.cons DE.non (DA.cons DE.int DA.nil))) (DA.cons (DE.tup (DA.cons (DE.tup (DA.cons DE.int (DA.cons DE.int DA.nil))) DA.nil)) (DA.cons (DE.tup (DA.cons DE.int (DA.cons (DE.tup (DA.cons DE.int DA.nil)) DA.nil))) (DA.cons (DE.freeze (DE.lst (DA.cons (DE.tup (DA.cons DE.int (DA.cons DE.int DA.nil))) DA.nil))) (DA.cons (DE.tup (DA.cons (DE.op (fun _ => op_sub) o2_sub DE.int (DE.op (fun _ => op_powW) o2_pow DE.int DE.int)) (DA.cons DE.int DA.nil))) (DA.cons (DE.tup (DA.cons DE.int (DA.cons (DE.op (fun _ => op_powW) o2_pow DE.int DE.int) DA.nil))) DA.nil))))))))))))) (DB.one (DS.ret (DE.ix (DE.var 2) (DE.own [(0, 0)] d__law_pull hr (fun _ => tk) rfl (DA.cons (DE.bor 0 (Sh.l Sh.s)) (DA.cons (DE.callB (fun _ => call_lenA) cd_len PySem.boot_len T.n_len (DA.cons (DE.var 2) DA.nil)) DA.nil))))))))⟩
abbrev s__law_no_number : Stmt := topS 39
abbrev N__law_no_number : List Str := ["jar", "most", "some"]
theorem sc__law_no_number : FnScope N__law_no_number ["jar", "most"] (defScope s__law_no_number) := ⟨rfl, rfl, rfl, by decide +kernel, rfl, by decide +kernel, by decide +kernel⟩
abbrev D__law_no_number (P : Program) (w : World) (K : PySem.W.Frag) (mg : Str → Option Value) (base : Heap) (k : Nat) : Prop := Def P w K mg base k "_law_no_number" ["jar", "most"] [(Sh.l Sh.s), Sh.s] [(Sh.l Sh.s), Sh.u] Sh.s m__law_no_number
theorem def__law_no_number {P : Program} {w : World} {K : PySem.W.Frag} {mg : Str → Option Value} {base : Heap} {f : Addr} {fd : FuncData} (T : Tx K mg) (d__law_pull : D__law_pull P w K mg base 1) (F : Fun K "_law_no_number" "_law_no_number" s__law_no_number f fd) (hm : mg "_law_no_number" = some (.ref f)) :
    D__law_no_number P w K mg base 2 :=
  def_ok2 (k := 1) (n := 1) (N := N__law_no_number) (Pn := [0]) (M := [(Sh.l Sh.s), Sh.u, Sh.u]) (fb := b__law_no_number) F sc__law_no_number hm (F.binds (ps := ["jar", "most"]) fun _ _ _ _ _ _ us hl => match us, hl with | [_, _], _ => rfl) [(Sh.l Sh.s), Sh.s, Sh.u]
    fun cdv A outer s H E hr tk po => ⟨_, (DB.cons (DS.to [(Sh.l Sh.s), Sh.s, Sh.s] (DS.set 2 sc__law_no_number.nd (DE.opi (fun _ => op_addA) o2_add (DE.freeze (DE.lst (DA.cons DE.non (DA.cons DE.bl (DA.cons DE.bl (DA.cons DE.str (DA.cons DE.str (DA.cons (DE.freeze (DE.lst DA.nil)) (DA.cons (DE.freeze (DE.lst (DA.cons DE.int DA.nil))) (DA.cons (DE.tup (DA.cons DE.int DA.nil)) (DA.cons DE.dct0 (DA.cons (DE.neg DE.int) (DA.cons (DE.op (fun _ => op_sub) o2_sub DE.int (DE.op (fun _ => op_powW) o2_pow DE.int DE.int)) DA.nil))))))))))))) (DE.freeze (DE.repL (DE.lst (DA.cons (DE.var 1) DA.nil)) (DE.callT (fun _ => call_int1) cd_int PyProof.Rows.boot_int T.n_int (DA.cons (DE.cmp (fun _ => op_gt) o2_gt (DE.var 1) DE.int) DA.nil))))))) (DB.one (DS.ret (DE.ix (DE.var 2) (DE.own [(0, 0)] d__law_pull hr (fun _ => tk) rfl (DA.cons (DE.bor 0 (Sh.l Sh.s)) (DA.cons (DE.callB (fun _ => call_lenA) cd_len PySem.boot_len T.n_len (DA.cons (DE.var 2) DA.nil)) DA.nil)))))))⟩
abbrev s__law_no_net : Stmt := topS 40
abbrev N__law_no_net : List Str := ["jar", "land", "some"]
theorem sc__law_no_net : FnScope N__law_no_net ["jar", "land"] (defScope s__law_no_net) := ⟨rfl, rfl, rfl, by decide +kernel, rfl, by decide +kernel, by decide +kernel⟩
abbrev D__law_no_net (P : Program) (w : World) (K : PySem.W.Frag) (mg : Str → Option Value) (base : Heap) (k : Nat) : Prop := Def P w K mg base k "_law_no_net" ["jar", "land"] [(Sh.l Sh.s), Sh.s] [(Sh.l Sh.s), Sh.u] Sh.s m__law_no_net
theorem def__law_no_net {P : Program} {w : World} {K : PySem.W.Frag} {mg : Str → Option Value} {base : Heap} {f : Addr} {fd : FuncData} (T : Tx K mg) (d__law_pull : D__law_pull P w K mg base 1) (F : Fun K "_law_no_net" "_law_no_net" s__law_no_net f fd) (hm : mg "_law_no_net" = some (.ref f)) :
    D__law_no_net P w K mg base 2 :=
  def_ok2 (k := 1) (n := 1) (N := N__law_no_net) (Pn := [0]) (M := [(Sh.l Sh.s), Sh.u, Sh.u]) (fb := b__law_no_net) F sc__law_no_net hm (F.binds (ps := ["jar", "land"]) fun _ _ _ _ _ _ us hl => match us, hl with | [_, _], _ => rfl) [(Sh.l Sh.s), Sh.s, Sh.u]
    fun cdv A outer s H E hr tk po => ⟨_, (DB.cons (DS.to [(Sh.l Sh.s), Sh.s, Sh.s] (DS.set 2 sc__law_no_net.nd (DE.freeze (DE.lst (DA.cons DE.non (DA.cons DE.int (DA.cons DE.str (DA.cons (DE.tup DA.nil) (DA.cons (DE.freeze (DE.lst DA.nil)) (DA.cons (DE.callT (fun _ => call_list_of) cd_lstOf PyProof.Rows.boot_list T.n_list (DA.cons (DE.var 1) DA.nil)) (DA.cons (DE.opi (fun _ => op_addA) o2_add (DE.var 1) (DE.opi (fun _ => op_repQ) o2_repT (DE.tup (DA.cons (DE.tup (DA.cons DE.int (DA.cons DE.int DA.nil))) DA.nil)) DE.int)) (DA.cons (DE.opi (fun _ => op_addA) o2_add (DE.var 1) (DE.tup (DA.cons DE.non DA.nil))) (DA.cons (DE.tup (DA.cons (DE.tup (DA.cons DE.int (DA.cons DE.non DA.nil))) DA.nil)) (DA.cons (DE.tup (DA.cons (DE.tup (DA.cons DE.int (DA.cons DE.int DA.nil))) DA.nil)) (DA.cons DE.dct0 DA.nil))))))))))))))) (DB.one (DS.ret (DE.ix (DE.opi (fun _ => op_addA) o2_add (DE.var 2) (DE.freeze (DE.lst (DA.cons (DE.tup (DA.cons (DE.tup (DA.cons DE.bl (DA.cons DE.int DA.nil))) DA.nil)) (DA.cons (DE.tup (DA.cons (DE.tup (DA.cons DE.int (DA.cons DE.bl DA.nil))) DA.nil)) (DA.cons (DE.tup (DA.cons (DE.tup (DA.cons DE.int (DA.cons (DE.neg DE.int) DA.nil))) DA.nil)) (DA.cons (DE.tup (DA.cons (DE.freeze (DE.lst (DA.cons DE.int (DA.cons DE.int DA.nil)))) DA.nil)) (DA.cons (DE.opi (fun _ => op_addA) o2_add (DE.var 1) (DE.tup (DA.cons (DE.tup (DA.cons DE.int DA.nil)) DA.nil))) DA.nil)))))))) (DE.own [(0, 0)] d__law_pull hr (fun _ => tk) rfl (DA.cons (DE.bor 0 (Sh.l Sh.s)) (DA.cons DE.int DA.nil)))))))⟩
abbrev s__law_right : Stmt := topS 41
abbrev N__law_right : List Str := ["jar", "land", "turn", "door", "asked", "dues", "kept", "told"]
theorem sc__law_right : FnScope N__law_right ["jar"] (defScope s__law_right) := ⟨rfl, rfl, rfl, by decide +kernel, rfl, by decide +kernel, by decide +kernel⟩
abbrev D__law_right (P : Program) (w : World) (K : PySem.W.Frag) (mg : Str → Option Value) (base : Heap) (k : Nat) : Prop := Def P w K mg base k "_law_right" ["jar"] [(Sh.l Sh.s)] [(Sh.l Sh.s)] Sh.s m__law_right
theorem def__law_right {P : Program} {w : World} {K : PySem.W.Frag} {mg : Str → Option Value} {base : Heap} {f : Addr} {fd : FuncData} (T : Tx K mg) (d__law_net : D__law_net P w K mg base 9) (d__law_pull : D__law_pull P w K mg base 9) (d__law_told : D__law_told P w K mg base 9) (d__law_no_kindling : D__law_no_kindling P w K mg base 9) (d__law_no_net : D__law_no_net P w K mg base 9) (d__law_no_number : D__law_no_number P w K mg base 9) (d__law_named : D__law_named P w K mg base 9) (F : Fun K "_law_right" "_law_right" s__law_right f fd) (hm : mg "_law_right" = some (.ref f)) :
    D__law_right P w K mg base 10 :=
  def_ok2 (k := 9) (n := 7) (N := N__law_right) (Pn := [0]) (M := [(Sh.l Sh.s), Sh.u, Sh.u, Sh.u, Sh.u, Sh.u, Sh.u, Sh.u]) (fb := b__law_right) F sc__law_right hm (F.binds (ps := ["jar"]) fun _ _ _ _ _ _ us hl => match us, hl with | [_], _ => rfl) [(Sh.l Sh.s), Sh.u, Sh.u, Sh.u, Sh.u, Sh.u, Sh.u, Sh.u]
    fun cdv A outer s H E hr tk po => ⟨_, (DB.cons (DS.to [(Sh.l Sh.s), Sh.s, Sh.u, Sh.u, Sh.u, Sh.u, Sh.u, Sh.u] (DS.set 1 sc__law_right.nd (DE.own [(0, 0)] d__law_net hr (fun _ => tk) rfl (DA.cons (DE.bor 0 (Sh.l Sh.s)) (DA.cons DE.int DA.nil))))) (DB.cons (DS.to [(Sh.l Sh.s), Sh.s, Sh.u, Sh.u, Sh.u, Sh.u, Sh.u, Sh.u] (DS.for1 2 (fun _ => po) rfl sc__law_right.nd (DI.rng1 T.n_range (DA.cons DE.int DA.nil)) (DB.weak [] [2, 3, 4, 5, 6, 7] (DB.cons (DS.to [(Sh.l Sh.s), Sh.s, Sh.s, Sh.s, Sh.u, Sh.u, Sh.u, Sh.u] (DS.set 3 sc__law_right.nd (DE.own [(0, 0)] d__law_pull hr (fun _ => tk) rfl (DA.cons (DE.bor 0 (Sh.l Sh.s)) (DA.cons DE.int DA.nil))))) (DB.cons (DS.to [(Sh.l Sh.s), Sh.s, Sh.s, Sh.s, (Sh.l Sh.s), Sh.u, Sh.u, Sh.u] (DS.set 4 sc__law_right.nd (DE.lst (DA.cons (DE.var 1) (DA.cons (DE.tup (DA.cons (DE.own [(0, 0)] d__law_pull hr (fun _ => tk) rfl (DA.cons (DE.bor 0 (Sh.l Sh.s)) (DA.cons DE.int DA.nil))) (DA.cons (DE.own [(0, 0)] d__law_pull hr (fun _ => tk) rfl (DA.cons (DE.bor 0 (Sh.l Sh.s)) (DA.cons (DE.callB (fun _ => call_lenA) cd_len PySem.boot_len T.n_len (DA.cons (DE.var 1) DA.nil)) DA.nil))) DA.nil))) (DA.cons (DE.own [(0, 0)] d__law_pull hr (fun _ => tk) rfl (DA.cons (DE.bor 0 (Sh.l Sh.s)) (DA.cons DE.int DA.nil))) DA.nil)))))) (DB.cons (DS.to [(Sh.l Sh.s), Sh.s, Sh.s, Sh.s, (Sh.l Sh.s), Sh.u, Sh.u, Sh.u] (DS.ite (DT.cmpU (hu65 hr) opU_eqA o2_eqA (DE.var 3) DE.int) (DB.one (DS.to [(Sh.l Sh.s), Sh.s, Sh.s, Sh.s, (Sh.l Sh.s), Sh.u, Sh.u, Sh.u] (DS.setI 4 (fun _ hb => pg_sub (pv 4) hb set_list) (DE.own [(0, 0)] d__law_pull hr (fun _ => tk) rfl (DA.cons (DE.bor 0 (Sh.l Sh.s)) (DA.cons (DE.callB (fun _ => call_lenA) cd_len PySem.boot_len T.n_len (DA.cons (DE.var 1) DA.nil)) DA.nil))) DE.int))) DB.nil)) (DB.cons (DS.to [(Sh.l Sh.s), Sh.s, Sh.s, Sh.s, (Sh.l Sh.s), Sh.u, Sh.u, Sh.u] (DS.ite (DT.cmpU (hu65 hr) opU_eqA o2_eqA (DE.var 3) DE.int) (DB.one (DS.to [(Sh.l Sh.s), Sh.s, Sh.s, Sh.s, (Sh.l Sh.s), Sh.u, Sh.u, Sh.u] (DS.setI 4 (fun _ hb => pg_sub (pv 4) hb set_list) (DE.tup (DA.cons (DE.own [(0, 0)] d__law_pull hr (fun _ => tk) rfl (DA.cons (DE.bor 0 (Sh.l Sh.s)) (DA.cons DE.int DA.nil))) (DA.cons (DE.own [(0, 0)] d__law_pull hr (fun _ => tk) rfl (DA.cons (DE.bor 0 (Sh.l Sh.s)) (DA.cons (DE.callB (fun _ => call_lenA) cd_len PySem.boot_len T.n_len (DA.cons (DE.var 1) DA.nil)) DA.nil))) DA.nil))) DE.int))) DB.nil)) (DB.cons (DS.to [(Sh.l Sh.s), Sh.s, Sh.s, Sh.s, (Sh.l Sh.s), Sh.s, Sh.u, Sh.u] (DS.set 5 sc__law_right.nd (DE.freeze (DE.lst DA.nil)))) (DB.cons (DS.to [(Sh.l Sh.s), Sh.s, Sh.s, Sh.s, (Sh.l Sh.s), Sh.s, Sh.u, Sh.u] (DS.ite (DT.cmpU (hu65 hr) opU_eqA o2_eqA (DE.own [(0, 0)] d__law_pull hr (fun _ => tk) rfl (DA.cons (DE.bor 0 (Sh.l Sh.s)) (DA.cons DE.int DA.nil))) DE.int) (DB.cons (DS.to [(Sh.l Sh.s), Sh.s, Sh.s, Sh.s, (Sh.l Sh.s), Sh.s, Sh.u, Sh.u] (DS.ite (DT.cmp (fun _ => op_lt) o2_lt (DE.var 3) DE.int) (DB.one (DS.to [(Sh.l Sh.s), Sh.s, Sh.s, Sh.s, (Sh.l Sh.s), Sh.s, Sh.u, Sh.u] (DS.setI 4 (fun _ hb => pg_sub (pv 4) hb set_list) (DE.own [(0, 0)] d__law_no_number hr (fun _ => tk) rfl (DA.cons (DE.bor 0 (Sh.l Sh.s)) (DA.cons (DE.ix (DE.freeze (DE.lst (DA.cons DE.int (DA.cons (DE.callB (fun _ => call_lenA) cd_len PySem.boot_len T.n_len (DA.cons (DE.var 1) DA.nil)) DA.nil)))) (DE.var 3)) DA.nil))) DE.int))) (DB.one (DS.to [(Sh.l Sh.s), Sh.s, Sh.s, Sh.s, (Sh.l Sh.s), Sh.s, Sh.u, Sh.u] (DS.setI 4 (fun _ hb => pg_sub (pv 4) hb set_list) (DE.own [(0, 0)] d__law_no_kindling hr (fun _ => tk) rfl (DA.cons (DE.bor 0 (Sh.l Sh.s)) (DA.cons (DE.var 1) DA.nil))) DE.int))))) (DB.one (DS.to [(Sh.l Sh.s), Sh.s, Sh.s, Sh.s, (Sh.l Sh.s), Sh.s, Sh.u, Sh.u] (DS.set 5 sc__law_right.nd (DE.freeze (DE.lst (DA.cons (DE.ix (DE.freeze (DE.lst (DA.cons DE.str (DA.cons DE.str (DA.cons DE.str DA.nil))))) (DE.var 3)) DA.nil))))))) DB.nil)) (DB.cons (DS.to [(Sh.l Sh.s), Sh.s, Sh.s, Sh.s, (Sh.l Sh.s), Sh.s, Sh.u, Sh.u] (DS.ite (DT.cmpU (hu65 hr) opU_eqA o2_eqA (DE.own [(0, 0)] d__law_pull hr (fun _ => tk) rfl (DA.cons (DE.bor 0 (Sh.l Sh.s)) (DA.cons DE.int DA.nil))) DE.int) (DB.cons (DS.to [(Sh.l Sh.s), Sh.s, Sh.s, Sh.s, (Sh.l Sh.s), Sh.s, Sh.u, Sh.u] (DS.setI 4 (fun _ hb => pg_sub (pv 4) hb set_list) (DE.own [(0, 0)] d__law_no_kindling hr (fun _ => tk) rfl (DA.cons (DE.bor 0 (Sh.l Sh.s)) (DA.cons (DE.var 1) DA.nil))) DE.int)) (DB.one (DS.to [(Sh.l Sh.s), Sh.s, Sh.s, Sh.s, (Sh.l Sh.s), Sh.s, Sh.u, Sh.u] (DS.set 5 sc__law_right.nd (DE.freeze (DE.lst (DA.cons DE.str DA.nil))))))) DB.nil)) (DB.cons (DS.to [(Sh.l Sh.s), Sh.s, Sh.s, Sh.s, (Sh.l Sh.s), Sh.s, Sh.u, Sh.u] (DS.ite (DT.cmpU (hu65 hr) opU_eqA o2_eqA (DE.own [(0, 0)] d__law_pull hr (fun _ => tk) rfl (DA.cons (DE.bor 0 (Sh.l Sh.s)) (DA.cons DE.int DA.nil))) DE.int) (DB.cons (DS.to [(Sh.l Sh.s), Sh.s, Sh.s, Sh.s, (Sh.l Sh.s), Sh.s, Sh.u, Sh.u] (DS.setI 4 (fun _ hb => pg_sub (pv 4) hb set_list) (DE.own [(0, 0)] d__law_no_net hr (fun _ => tk) rfl (DA.cons (DE.bor 0 (Sh.l Sh.s)) (DA.cons (DE.var 1) DA.nil))) DE.int)) (DB.one (DS.to [(Sh.l Sh.s), Sh.s, Sh.s, Sh.s, (Sh.l Sh.s), Sh.s, Sh.u, Sh.u] (DS.set 5 sc__law_right.nd (DE.freeze (DE.lst (DA.cons DE.str DA.nil))))))) DB.nil)) (DB.cons (DS.to [(Sh.l Sh.s), Sh.s, Sh.s, Sh.s, (Sh.l Sh.s), Sh.s, Sh.s, Sh.u] (DS.set 6 sc__law_right.nd (DE.reprA hr T.n_repr (DA.cons (DE.bor 4 (Sh.l Sh.s)) DA.nil)))) (DB.cons (DS.to [(Sh.l Sh.s), Sh.s, Sh.s, Sh.s, (Sh.l Sh.s), Sh.s, Sh.s, Sh.s] (DS.set 7 sc__law_right.nd (DE.own [] d__law_told hr (fun _ => tk) rfl (DA.cons (DE.var 3) (DA.cons (DE.ix (DE.bor 4 (Sh.l Sh.s)) DE.int) (DA.cons (DE.ix (DE.bor 4 (Sh.l Sh.s)) DE.int) (DA.cons (DE.ix (DE.bor 4 (Sh.l Sh.s)) DE.int) DA.nil))))))) (DB.cons (DS.to [(Sh.l Sh.s), Sh.s, Sh.s, Sh.s, (Sh.l Sh.s), Sh.s, Sh.s, Sh.s] (DS.ite (DW.t (DW.or (DW.t (DW.and (DT.cmpU (hu65 hr) opU_eqA o2_eqA (DE.var 5) (DE.freeze (DE.lst DA.nil))) (DW.and1 (DT.cmpU (hu65 hr) opU_neA o2_neA (DE.var 7) (DE.freeze (DE.own [] d__law_named hr (fun _ => tk) rfl (DA.cons (DE.var 3) (DA.cons (DE.ix (DE.bor 4 (Sh.l Sh.s)) DE.int) (DA.cons (DE.ix (DE.bor 4 (Sh.l Sh.s)) DE.int) (DA.cons (DE.ix (DE.bor 4 (Sh.l Sh.s)) DE.int) DA.nil)))))))))) (DW.or1 (DT.cmpU (hu65 hr) opU_neA o2_neA (DE.reprA hr T.n_repr (DA.cons (DE.bor 4 (Sh.l Sh.s)) DA.nil)) (DE.var 6))))) (DB.one (DS.ret DE.bl)) DB.nil)) (DB.one (DS.to [(Sh.l Sh.s), Sh.s, Sh.s, Sh.s, (Sh.l Sh.s), Sh.s, Sh.s, Sh.s] (DS.ite (DW.t (DW.and (DT.cmpU (hu65 hr) opU_neA o2_neA (DE.var 5) (DE.freeze (DE.lst DA.nil))) (DW.and1 (DT.cmpU (hu65 hr) opU_neA o2_neA (DE.var 7) (DE.ix (DE.var 5) DE.int))))) (DB.one (DS.ret DE.bl)) DB.nil))))))))))))))))) (DB.one (DS.ret DE.bl))))⟩
abbrev s_law : Stmt := topS 42
abbrev N_law : List Str := ["script", "cells", "k"]
theorem sc_law : FnScope N_law ["script"] (defScope s_law) := ⟨rfl, rfl, rfl, by decide +kernel, rfl, by decide +kernel, by decide +kernel⟩
abbrev D_law (P : Program) (w : World) (K : PySem.W.Frag) (mg : Str → Option Value) (base : Heap) (k : Nat) : Prop := Def P w K mg base k "law" ["script"] [Sh.s] [Sh.u] Sh.s m_law
theorem def_law {P : Program} {w : World} {K : PySem.W.Frag} {mg : Str → Option Value} {base : Heap} {f : Addr} {fd : FuncData} (T : Tx K mg) (d__law_cells : D__law_cells P w K mg base 10) (d__law_right : D__law_right P w K mg base 10) (d__law_jar : D__law_jar P w K mg base 10) (F : Fun K "law" "law" s_law f fd) (hm : mg "law" = some (.ref f)) :
    FnG P w K mg base (L2.CX P w) 11 f fd ["script"] (spOf ⟨K, mg⟩ [Sh.s] [Sh.u] Sh.s m_law) :=
  fn_ok2 (k := 10) (n := 2) (N := N_law) (Pn := []) (M := [Sh.u, Sh.u, Sh.u]) (fb := b_law) F sc_law hm (F.binds (ps := ["script"]) fun _ _ _ _ _ _ us hl => match us, hl with | [_], _ => rfl) [Sh.s, Sh.u, Sh.u]
    fun cdv A outer s H E hr tk po => ⟨_, (DB.cons (DS.to [Sh.s, Sh.s, Sh.u] (DS.set 1 sc_law.nd (DE.own [] d__law_cells hr (fun _ => tk) rfl (DA.cons (DE.var 0) (DA.cons DE.int DA.nil))))) (DB.cons (DS.to [Sh.s, Sh.s, Sh.u] (DS.for1 2 (fun _ => po) rfl sc_law.nd (DI.rng1 T.n_range (DA.cons (DE.callB (fun _ => call_lenA) cd_len PySem.boot_len T.n_len (DA.cons (DE.var 1) DA.nil)) DA.nil)) (DB.weak [] [2] (DB.one (DS.to [Sh.s, Sh.s, Sh.s] (DS.ite (DT.not (DT.val (DE.own1 d__law_right hr (fun _ => tk) rfl (DE.own [] d__law_jar hr (fun _ => tk) rfl (DA.cons (DE.ix (DE.var 1) (DE.var 2)) (DA.cons (DE.var 2) DA.nil)))))) (DB.one (DS.ret DE.bl)) DB.nil)))))) (DB.one (DS.ret DE.bl))))⟩
theorem all_mk {l : PySem.W.OpenLaw} {w : World} {K : PySem.W.Frag} {h : Heap} {mg : Str → Option Value} {fa : Addr} (X : K.In h) (G : h.Ns mainGlobals mg) (hfa : mg "law" = some (.ref fa))
    {f__law_cells : Addr} {od__law_cells an__law_cells : Option Addr} {sl__law_cells : Array (Option Value)} {oc__law_cells kV__law_cells dc__law_cells pm__law_cells cd__law_cells ct__law_cells : Value}
    (a__law_cells : PySem.W.nsIn K mainGlobals "_law_cells" = some (some (.ref f__law_cells))) (l__law_cells : K.lookup f__law_cells = some ⟨oc__law_cells, od__law_cells, .func (PySem.W.fnOf "_law_cells" "_law_cells" (defArgs s__law_cells) (defBody s__law_cells) (defScope s__law_cells) .none kV__law_cells dc__law_cells pm__law_cells an__law_cells cd__law_cells ct__law_cells), sl__law_cells⟩) (c__law_cells : PySem.W.codeIn K cd__law_cells "_law_cells" = true) (k__law_cells : PySem.W.keepIn K (.ref f__law_cells) = true)
    {f__law_pull : Addr} {od__law_pull an__law_pull : Option Addr} {sl__law_pull : Array (Option Value)} {oc__law_pull kV__law_pull dc__law_pull pm__law_pull cd__law_pull ct__law_pull : Value}
    (a__law_pull : PySem.W.nsIn K mainGlobals "_law_pull" = some (some (.ref f__law_pull))) (l__law_pull : K.lookup f__law_pull = some ⟨oc__law_pull, od__law_pull, .func (PySem.W.fnOf "_law_pull" "_law_pull" (defArgs s__law_pull) (defBody s__law_pull) (defScope s__law_pull) .none kV__law_pull dc__law_pull pm__law_pull an__law_pull cd__law_pull ct__law_pull), sl__law_pull⟩) (c__law_pull : PySem.W.codeIn K cd__law_pull "_law_pull" = true) (k__law_pull : PySem.W.keepIn K (.ref f__law_pull) = true)
    {f__law_next : Addr} {od__law_next an__law_next : Option Addr} {sl__law_next : Array (Option Value)} {oc__law_next kV__law_next dc__law_next pm__law_next cd__law_next ct__law_next : Value}
    (a__law_next : PySem.W.nsIn K mainGlobals "_law_next" = some (some (.ref f__law_next))) (l__law_next : K.lookup f__law_next = some ⟨oc__law_next, od__law_next, .func (PySem.W.fnOf "_law_next" "_law_next" (defArgs s__law_next) (defBody s__law_next) (defScope s__law_next) .none kV__law_next dc__law_next pm__law_next an__law_next cd__law_next ct__law_next), sl__law_next⟩) (c__law_next : PySem.W.codeIn K cd__law_next "_law_next" = true) (k__law_next : PySem.W.keepIn K (.ref f__law_next) = true)
    {f__law_net : Addr} {od__law_net an__law_net : Option Addr} {sl__law_net : Array (Option Value)} {oc__law_net kV__law_net dc__law_net pm__law_net cd__law_net ct__law_net : Value}
    (a__law_net : PySem.W.nsIn K mainGlobals "_law_net" = some (some (.ref f__law_net))) (l__law_net : K.lookup f__law_net = some ⟨oc__law_net, od__law_net, .func (PySem.W.fnOf "_law_net" "_law_net" (defArgs s__law_net) (defBody s__law_net) (defScope s__law_net) .none kV__law_net dc__law_net pm__law_net an__law_net cd__law_net ct__law_net), sl__law_net⟩) (c__law_net : PySem.W.codeIn K cd__law_net "_law_net" = true) (k__law_net : PySem.W.keepIn K (.ref f__law_net) = true)
    {f_is_whole : Addr} {od_is_whole an_is_whole : Option Addr} {sl_is_whole : Array (Option Value)} {oc_is_whole kV_is_whole dc_is_whole pm_is_whole cd_is_whole ct_is_whole : Value}
    (a_is_whole : PySem.W.nsIn K mainGlobals "is_whole" = some (some (.ref f_is_whole))) (l_is_whole : K.lookup f_is_whole = some ⟨oc_is_whole, od_is_whole, .func (PySem.W.fnOf "is_whole" "is_whole" (defArgs s_is_whole) (defBody s_is_whole) (defScope s_is_whole) .none kV_is_whole dc_is_whole pm_is_whole an_is_whole cd_is_whole ct_is_whole), sl_is_whole⟩) (c_is_whole : PySem.W.codeIn K cd_is_whole "is_whole" = true) (k_is_whole : PySem.W.keepIn K (.ref f_is_whole) = true)
    {f_is_below : Addr} {od_is_below an_is_below : Option Addr} {sl_is_below : Array (Option Value)} {oc_is_below kV_is_below dc_is_below pm_is_below cd_is_below ct_is_below : Value}
    (a_is_below : PySem.W.nsIn K mainGlobals "is_below" = some (some (.ref f_is_below))) (l_is_below : K.lookup f_is_below = some ⟨oc_is_below, od_is_below, .func (PySem.W.fnOf "is_below" "is_below" (defArgs s_is_below) (defBody s_is_below) (defScope s_is_below) .none kV_is_below dc_is_below pm_is_below an_is_below cd_is_below ct_is_below), sl_is_below⟩) (c_is_below : PySem.W.codeIn K cd_is_below "is_below" = true) (k_is_below : PySem.W.keepIn K (.ref f_is_below) = true)
    {f_is_lamp : Addr} {od_is_lamp an_is_lamp : Option Addr} {sl_is_lamp : Array (Option Value)} {oc_is_lamp kV_is_lamp dc_is_lamp pm_is_lamp cd_is_lamp ct_is_lamp : Value}
    (a_is_lamp : PySem.W.nsIn K mainGlobals "is_lamp" = some (some (.ref f_is_lamp))) (l_is_lamp : K.lookup f_is_lamp = some ⟨oc_is_lamp, od_is_lamp, .func (PySem.W.fnOf "is_lamp" "is_lamp" (defArgs s_is_lamp) (defBody s_is_lamp) (defScope s_is_lamp) .none kV_is_lamp dc_is_lamp pm_is_lamp an_is_lamp cd_is_lamp ct_is_lamp), sl_is_lamp⟩) (c_is_lamp : PySem.W.codeIn K cd_is_lamp "is_lamp" = true) (k_is_lamp : PySem.W.keepIn K (.ref f_is_lamp) = true)
    {f_is_net : Addr} {od_is_net an_is_net : Option Addr} {sl_is_net : Array (Option Value)} {oc_is_net kV_is_net dc_is_net pm_is_net cd_is_net ct_is_net : Value}
    (a_is_net : PySem.W.nsIn K mainGlobals "is_net" = some (some (.ref f_is_net))) (l_is_net : K.lookup f_is_net = some ⟨oc_is_net, od_is_net, .func (PySem.W.fnOf "is_net" "is_net" (defArgs s_is_net) (defBody s_is_net) (defScope s_is_net) .none kV_is_net dc_is_net pm_is_net an_is_net cd_is_net ct_is_net), sl_is_net⟩) (c_is_net : PySem.W.codeIn K cd_is_net "is_net" = true) (k_is_net : PySem.W.keepIn K (.ref f_is_net) = true)
    {f_need_net : Addr} {od_need_net an_need_net : Option Addr} {sl_need_net : Array (Option Value)} {oc_need_net kV_need_net dc_need_net pm_need_net cd_need_net ct_need_net : Value}
    (a_need_net : PySem.W.nsIn K mainGlobals "need_net" = some (some (.ref f_need_net))) (l_need_net : K.lookup f_need_net = some ⟨oc_need_net, od_need_net, .func (PySem.W.fnOf "need_net" "need_net" (defArgs s_need_net) (defBody s_need_net) (defScope s_need_net) .none kV_need_net dc_need_net pm_need_net an_need_net cd_need_net ct_need_net), sl_need_net⟩) (c_need_net : PySem.W.codeIn K cd_need_net "need_net" = true) (k_need_net : PySem.W.keepIn K (.ref f_need_net) = true)
    {f_is_kindling : Addr} {od_is_kindling an_is_kindling : Option Addr} {sl_is_kindling : Array (Option Value)} {oc_is_kindling kV_is_kindling dc_is_kindling pm_is_kindling cd_is_kindling ct_is_kindling : Value}
    (a_is_kindling : PySem.W.nsIn K mainGlobals "is_kindling" = some (some (.ref f_is_kindling))) (l_is_kindling : K.lookup f_is_kindling = some ⟨oc_is_kindling, od_is_kindling, .func (PySem.W.fnOf "is_kindling" "is_kindling" (defArgs s_is_kindling) (defBody s_is_kindling) (defScope s_is_kindling) .none kV_is_kindling dc_is_kindling pm_is_kindling an_is_kindling cd_is_kindling ct_is_kindling), sl_is_kindling⟩) (c_is_kindling : PySem.W.codeIn K cd_is_kindling "is_kindling" = true) (k_is_kindling : PySem.W.keepIn K (.ref f_is_kindling) = true)
    {f_need_kindling : Addr} {od_need_kindling an_need_kindling : Option Addr} {sl_need_kindling : Array (Option Value)} {oc_need_kindling kV_need_kindling dc_need_kindling pm_need_kindling cd_need_kindling ct_need_kindling : Value}
    (a_need_kindling : PySem.W.nsIn K mainGlobals "need_kindling" = some (some (.ref f_need_kindling))) (l_need_kindling : K.lookup f_need_kindling = some ⟨oc_need_kindling, od_need_kindling, .func (PySem.W.fnOf "need_kindling" "need_kindling" (defArgs s_need_kindling) (defBody s_need_kindling) (defScope s_need_kindling) .none kV_need_kindling dc_need_kindling pm_need_kindling an_need_kindling cd_need_kindling ct_need_kindling), sl_need_kindling⟩) (c_need_kindling : PySem.W.codeIn K cd_need_kindling "need_kindling" = true) (k_need_kindling : PySem.W.keepIn K (.ref f_need_kindling) = true)
    {f_need_lamp : Addr} {od_need_lamp an_need_lamp : Option Addr} {sl_need_lamp : Array (Option Value)} {oc_need_lamp kV_need_lamp dc_need_lamp pm_need_lamp cd_need_lamp ct_need_lamp : Value}
    (a_need_lamp : PySem.W.nsIn K mainGlobals "need_lamp" = some (some (.ref f_need_lamp))) (l_need_lamp : K.lookup f_need_lamp = some ⟨oc_need_lamp, od_need_lamp, .func (PySem.W.fnOf "need_lamp" "need_lamp" (defArgs s_need_lamp) (defBody s_need_lamp) (defScope s_need_lamp) .none kV_need_lamp dc_need_lamp pm_need_lamp an_need_lamp cd_need_lamp ct_need_lamp), sl_need_lamp⟩) (c_need_lamp : PySem.W.codeIn K cd_need_lamp "need_lamp" = true) (k_need_lamp : PySem.W.keepIn K (.ref f_need_lamp) = true)
    {f_way_of : Addr} {od_way_of an_way_of : Option Addr} {sl_way_of : Array (Option Value)} {oc_way_of kV_way_of dc_way_of pm_way_of cd_way_of ct_way_of : Value}
    (a_way_of : PySem.W.nsIn K mainGlobals "way_of" = some (some (.ref f_way_of))) (l_way_of : K.lookup f_way_of = some ⟨oc_way_of, od_way_of, .func (PySem.W.fnOf "way_of" "way_of" (defArgs s_way_of) (defBody s_way_of) (defScope s_way_of) .none kV_way_of dc_way_of pm_way_of an_way_of cd_way_of ct_way_of), sl_way_of⟩) (c_way_of : PySem.W.codeIn K cd_way_of "way_of" = true) (k_way_of : PySem.W.keepIn K (.ref f_way_of) = true)
    {f_length_of : Addr} {od_length_of an_length_of : Option Addr} {sl_length_of : Array (Option Value)} {oc_length_of kV_length_of dc_length_of pm_length_of cd_length_of ct_length_of : Value}
    (a_length_of : PySem.W.nsIn K mainGlobals "length_of" = some (some (.ref f_length_of))) (l_length_of : K.lookup f_length_of = some ⟨oc_length_of, od_length_of, .func (PySem.W.fnOf "length_of" "length_of" (defArgs s_length_of) (defBody s_length_of) (defScope s_length_of) .none kV_length_of dc_length_of pm_length_of an_length_of cd_length_of ct_length_of), sl_length_of⟩) (c_length_of : PySem.W.codeIn K cd_length_of "length_of" = true) (k_length_of : PySem.W.keepIn K (.ref f_length_of) = true)
    {f_first_lit : Addr} {od_first_lit an_first_lit : Option Addr} {sl_first_lit : Array (Option Value)} {oc_first_lit kV_first_lit dc_first_lit pm_first_lit cd_first_lit ct_first_lit : Value}
    (a_first_lit : PySem.W.nsIn K mainGlobals "first_lit" = some (some (.ref f_first_lit))) (l_first_lit : K.lookup f_first_lit = some ⟨oc_first_lit, od_first_lit, .func (PySem.W.fnOf "first_lit" "first_lit" (defArgs s_first_lit) (defBody s_first_lit) (defScope s_first_lit) .none kV_first_lit dc_first_lit pm_first_lit an_first_lit cd_first_lit ct_first_lit), sl_first_lit⟩) (c_first_lit : PySem.W.codeIn K cd_first_lit "first_lit" = true) (k_first_lit : PySem.W.keepIn K (.ref f_first_lit) = true)
    {f_gap_of : Addr} {od_gap_of an_gap_of : Option Addr} {sl_gap_of : Array (Option Value)} {oc_gap_of kV_gap_of dc_gap_of pm_gap_of cd_gap_of ct_gap_of : Value}
    (a_gap_of : PySem.W.nsIn K mainGlobals "gap_of" = some (some (.ref f_gap_of))) (l_gap_of : K.lookup f_gap_of = some ⟨oc_gap_of, od_gap_of, .func (PySem.W.fnOf "gap_of" "gap_of" (defArgs s_gap_of) (defBody s_gap_of) (defScope s_gap_of) .none kV_gap_of dc_gap_of pm_gap_of an_gap_of cd_gap_of ct_gap_of), sl_gap_of⟩) (c_gap_of : PySem.W.codeIn K cd_gap_of "gap_of" = true) (k_gap_of : PySem.W.keepIn K (.ref f_gap_of) = true)
    {f__law_kind : Addr} {od__law_kind an__law_kind : Option Addr} {sl__law_kind : Array (Option Value)} {oc__law_kind kV__law_kind dc__law_kind pm__law_kind cd__law_kind ct__law_kind : Value}
    (a__law_kind : PySem.W.nsIn K mainGlobals "_law_kind" = some (some (.ref f__law_kind))) (l__law_kind : K.lookup f__law_kind = some ⟨oc__law_kind, od__law_kind, .func (PySem.W.fnOf "_law_kind" "_law_kind" (defArgs s__law_kind) (defBody s__law_kind) (defScope s__law_kind) .none kV__law_kind dc__law_kind pm__law_kind an__law_kind cd__law_kind ct__law_kind), sl__law_kind⟩) (c__law_kind : PySem.W.codeIn K cd__law_kind "_law_kind" = true) (k__law_kind : PySem.W.keepIn K (.ref f__law_kind) = true)
    {f_spot_in : Addr} {od_spot_in an_spot_in : Option Addr} {sl_spot_in : Array (Option Value)} {oc_spot_in kV_spot_in dc_spot_in pm_spot_in cd_spot_in ct_spot_in : Value}
    (a_spot_in : PySem.W.nsIn K mainGlobals "spot_in" = some (some (.ref f_spot_in))) (l_spot_in : K.lookup f_spot_in = some ⟨oc_spot_in, od_spot_in, .func (PySem.W.fnOf "spot_in" "spot_in" (defArgs s_spot_in) (defBody s_spot_in) (defScope s_spot_in) .none kV_spot_in dc_spot_in pm_spot_in an_spot_in cd_spot_in ct_spot_in), sl_spot_in⟩) (c_spot_in : PySem.W.codeIn K cd_spot_in "spot_in" = true) (k_spot_in : PySem.W.keepIn K (.ref f_spot_in) = true)
    {f_place_alone : Addr} {od_place_alone an_place_alone : Option Addr} {sl_place_alone : Array (Option Value)} {oc_place_alone kV_place_alone dc_place_alone pm_place_alone cd_place_alone ct_place_alone : Value}
    (a_place_alone : PySem.W.nsIn K mainGlobals "place_alone" = some (some (.ref f_place_alone))) (l_place_alone : K.lookup f_place_alone = some ⟨oc_place_alone, od_place_alone, .func (PySem.W.fnOf "place_alone" "place_alone" (defArgs s_place_alone) (defBody s_place_alone) (defScope s_place_alone) .none kV_place_alone dc_place_alone pm_place_alone an_place_alone cd_place_alone ct_place_alone), sl_place_alone⟩) (c_place_alone : PySem.W.codeIn K cd_place_alone "place_alone" = true) (k_place_alone : PySem.W.keepIn K (.ref f_place_alone) = true)
    {f_lights_alone : Addr} {od_lights_alone an_lights_alone : Option Addr} {sl_lights_alone : Array (Option Value)} {oc_lights_alone kV_lights_alone dc_lights_alone pm_lights_alone cd_lights_alone ct_lights_alone : Value}
    (a_lights_alone : PySem.W.nsIn K mainGlobals "lights_alone" = some (some (.ref f_lights_alone))) (l_lights_alone : K.lookup f_lights_alone = some ⟨oc_lights_alone, od_lights_alone, .func (PySem.W.fnOf "lights_alone" "lights_alone" (defArgs s_lights_alone) (defBody s_lights_alone) (defScope s_lights_alone) .none kV_lights_alone dc_lights_alone pm_lights_alone an_lights_alone cd_lights_alone ct_lights_alone), sl_lights_alone⟩) (c_lights_alone : PySem.W.codeIn K cd_lights_alone "lights_alone" = true) (k_lights_alone : PySem.W.keepIn K (.ref f_lights_alone) = true)
    {f__law_told : Addr} {od__law_told an__law_told : Option Addr} {sl__law_told : Array (Option Value)} {oc__law_told kV__law_told dc__law_told pm__law_told cd__law_told ct__law_told : Value}
    (a__law_told : PySem.W.nsIn K mainGlobals "_law_told" = some (some (.ref f__law_told))) (l__law_told : K.lookup f__law_told = some ⟨oc__law_told, od__law_told, .func (PySem.W.fnOf "_law_told" "_law_told" (defArgs s__law_told) (defBody s__law_told) (defScope s__law_told) .none kV__law_told dc__law_told pm__law_told an__law_told cd__law_told ct__law_told), sl__law_told⟩) (c__law_told : PySem.W.codeIn K cd__law_told "_law_told" = true) (k__law_told : PySem.W.keepIn K (.ref f__law_told) = true)
    {f__law_no_kindling : Addr} {od__law_no_kindling an__law_no_kindling : Option Addr} {sl__law_no_kindling : Array (Option Value)} {oc__law_no_kindling kV__law_no_kindling dc__law_no_kindling pm__law_no_kindling cd__law_no_kindling ct__law_no_kindling : Value}
    (a__law_no_kindling : PySem.W.nsIn K mainGlobals "_law_no_kindling" = some (some (.ref f__law_no_kindling))) (l__law_no_kindling : K.lookup f__law_no_kindling = some ⟨oc__law_no_kindling, od__law_no_kindling, .func (PySem.W.fnOf "_law_no_kindling" "_law_no_kindling" (defArgs s__law_no_kindling) (defBody s__law_no_kindling) (defScope s__law_no_kindling) .none kV__law_no_kindling dc__law_no_kindling pm__law_no_kindling an__law_no_kindling cd__law_no_kindling ct__law_no_kindling), sl__law_no_kindling⟩) (c__law_no_kindling : PySem.W.codeIn K cd__law_no_kindling "_law_no_kindling" = true) (k__law_no_kindling : PySem.W.keepIn K (.ref f__law_no_kindling) = true)
    {f__law_no_net : Addr} {od__law_no_net an__law_no_net : Option Addr} {sl__law_no_net : Array (Option Value)} {oc__law_no_net kV__law_no_net dc__law_no_net pm__law_no_net cd__law_no_net ct__law_no_net : Value}
    (a__law_no_net : PySem.W.nsIn K mainGlobals "_law_no_net" = some (some (.ref f__law_no_net))) (l__law_no_net : K.lookup f__law_no_net = some ⟨oc__law_no_net, od__law_no_net, .func (PySem.W.fnOf "_law_no_net" "_law_no_net" (defArgs s__law_no_net) (defBody s__law_no_net) (defScope s__law_no_net) .none kV__law_no_net dc__law_no_net pm__law_no_net an__law_no_net cd__law_no_net ct__law_no_net), sl__law_no_net⟩) (c__law_no_net : PySem.W.codeIn K cd__law_no_net "_law_no_net" = true) (k__law_no_net : PySem.W.keepIn K (.ref f__law_no_net) = true)
    {f__law_no_number : Addr} {od__law_no_number an__law_no_number : Option Addr} {sl__law_no_number : Array (Option Value)} {oc__law_no_number kV__law_no_number dc__law_no_number pm__law_no_number cd__law_no_number ct__law_no_number : Value}
    (a__law_no_number : PySem.W.nsIn K mainGlobals "_law_no_number" = some (some (.ref f__law_no_number))) (l__law_no_number : K.lookup f__law_no_number = some ⟨oc__law_no_number, od__law_no_number, .func (PySem.W.fnOf "_law_no_number" "_law_no_number" (defArgs s__law_no_number) (defBody s__law_no_number) (defScope s__law_no_number) .none kV__law_no_number dc__law_no_number pm__law_no_number an__law_no_number cd__law_no_number ct__law_no_number), sl__law_no_number⟩) (c__law_no_number : PySem.W.codeIn K cd__law_no_number "_law_no_number" = true) (k__law_no_number : PySem.W.keepIn K (.ref f__law_no_number) = true)
    {f__law_named : Addr} {od__law_named an__law_named : Option Addr} {sl__law_named : Array (Option Value)} {oc__law_named kV__law_named dc__law_named pm__law_named cd__law_named ct__law_named : Value}
    (a__law_named : PySem.W.nsIn K mainGlobals "_law_named" = some (some (.ref f__law_named))) (l__law_named : K.lookup f__law_named = some ⟨oc__law_named, od__law_named, .func (PySem.W.fnOf "_law_named" "_law_named" (defArgs s__law_named) (defBody s__law_named) (defScope s__law_named) .none kV__law_named dc__law_named pm__law_named an__law_named cd__law_named ct__law_named), sl__law_named⟩) (c__law_named : PySem.W.codeIn K cd__law_named "_law_named" = true) (k__law_named : PySem.W.keepIn K (.ref f__law_named) = true)
    {f__law_right : Addr} {od__law_right an__law_right : Option Addr} {sl__law_right : Array (Option Value)} {oc__law_right kV__law_right dc__law_right pm__law_right cd__law_right ct__law_right : Value}
    (a__law_right : PySem.W.nsIn K mainGlobals "_law_right" = some (some (.ref f__law_right))) (l__law_right : K.lookup f__law_right = some ⟨oc__law_right, od__law_right, .func (PySem.W.fnOf "_law_right" "_law_right" (defArgs s__law_right) (defBody s__law_right) (defScope s__law_right) .none kV__law_right dc__law_right pm__law_right an__law_right cd__law_right ct__law_right), sl__law_right⟩) (c__law_right : PySem.W.codeIn K cd__law_right "_law_right" = true) (k__law_right : PySem.W.keepIn K (.ref f__law_right) = true)
    {f__law_jar : Addr} {od__law_jar an__law_jar : Option Addr} {sl__law_jar : Array (Option Value)} {oc__law_jar kV__law_jar dc__law_jar pm__law_jar cd__law_jar ct__law_jar : Value}
    (a__law_jar : PySem.W.nsIn K mainGlobals "_law_jar" = some (some (.ref f__law_jar))) (l__law_jar : K.lookup f__law_jar = some ⟨oc__law_jar, od__law_jar, .func (PySem.W.fnOf "_law_jar" "_law_jar" (defArgs s__law_jar) (defBody s__law_jar) (defScope s__law_jar) .none kV__law_jar dc__law_jar pm__law_jar an__law_jar cd__law_jar ct__law_jar), sl__law_jar⟩) (c__law_jar : PySem.W.codeIn K cd__law_jar "_law_jar" = true) (k__law_jar : PySem.W.keepIn K (.ref f__law_jar) = true)
    {f_law : Addr} {od_law an_law : Option Addr} {sl_law : Array (Option Value)} {oc_law kV_law dc_law pm_law cd_law ct_law : Value}
    (a_law : PySem.W.nsIn K mainGlobals "law" = some (some (.ref f_law))) (l_law : K.lookup f_law = some ⟨oc_law, od_law, .func (PySem.W.fnOf "law" "law" (defArgs s_law) (defBody s_law) (defScope s_law) .none kV_law dc_law pm_law an_law cd_law ct_law), sl_law⟩) (c_law : PySem.W.codeIn K cd_law "law" = true) (k_law : PySem.W.keepIn K (.ref f_law) = true)
    (z_ValueError : PySem.W.nsIn K mainGlobals "ValueError" = some none)
    (z_all : PySem.W.nsIn K mainGlobals "all" = some none)
    (z_bool : PySem.W.nsIn K mainGlobals "bool" = some none)
    (z_int : PySem.W.nsIn K mainGlobals "int" = some none)
    (z_isinstance : PySem.W.nsIn K mainGlobals "isinstance" = some none)
    (z_len : PySem.W.nsIn K mainGlobals "len" = some none)
    (z_list : PySem.W.nsIn K mainGlobals "list" = some none)
    (z_max : PySem.W.nsIn K mainGlobals "max" = some none)
    (z_range : PySem.W.nsIn K mainGlobals "range" = some none)
    (z_repr : PySem.W.nsIn K mainGlobals "repr" = some none)
    (z_sum : PySem.W.nsIn K mainGlobals "sum" = some none)
    (z_tuple : PySem.W.nsIn K mainGlobals "tuple" = some none)
    {t_MOST_LAMPS : Tok} (g_MOST_LAMPS : PySem.W.nsIn K mainGlobals "MOST_LAMPS" = some (some (.int 12 t_MOST_LAMPS)))
    {C_NoBeat : Addr} (e1_NoBeat : PySem.W.nsIn K mainGlobals "NoBeat" = some (some (.ref C_NoBeat))) (e2_NoBeat : PySem.W.excIn K C_NoBeat [.type "ValueError", .type "Exception", .type "BaseException", .type "object"] "ValueError.__new__" = true) (e3_NoBeat : PySem.W.keepIn K (.ref C_NoBeat) = true) (e4_NoBeat : PySem.W.subIn K (.ref C_NoBeat) (.type "BaseException") = some true) (e5_NoBeat : PySem.W.typeIn K (.ref C_NoBeat) = some (.type "type"))
    {C_NoKindlings : Addr} (e1_NoKindlings : PySem.W.nsIn K mainGlobals "NoKindlings" = some (some (.ref C_NoKindlings))) (e2_NoKindlings : PySem.W.excIn K C_NoKindlings [.type "ValueError", .type "Exception", .type "BaseException", .type "object"] "ValueError.__new__" = true) (e3_NoKindlings : PySem.W.keepIn K (.ref C_NoKindlings) = true) (e4_NoKindlings : PySem.W.subIn K (.ref C_NoKindlings) (.type "BaseException") = some true) (e5_NoKindlings : PySem.W.typeIn K (.ref C_NoKindlings) = some (.type "type"))
    {C_NoLamp : Addr} (e1_NoLamp : PySem.W.nsIn K mainGlobals "NoLamp" = some (some (.ref C_NoLamp))) (e2_NoLamp : PySem.W.excIn K C_NoLamp [.type "ValueError", .type "Exception", .type "BaseException", .type "object"] "ValueError.__new__" = true) (e3_NoLamp : PySem.W.keepIn K (.ref C_NoLamp) = true) (e4_NoLamp : PySem.W.subIn K (.ref C_NoLamp) (.type "BaseException") = some true) (e5_NoLamp : PySem.W.typeIn K (.ref C_NoLamp) = some (.type "type"))
    {C_NoNet : Addr} (e1_NoNet : PySem.W.nsIn K mainGlobals "NoNet" = some (some (.ref C_NoNet))) (e2_NoNet : PySem.W.excIn K C_NoNet [.type "ValueError", .type "Exception", .type "BaseException", .type "object"] "ValueError.__new__" = true) (e3_NoNet : PySem.W.keepIn K (.ref C_NoNet) = true) (e4_NoNet : PySem.W.subIn K (.ref C_NoNet) (.type "BaseException") = some true) (e5_NoNet : PySem.W.typeIn K (.ref C_NoNet) = some (.type "type"))
    {C_EmberError : Addr} (e1_EmberError : PySem.W.nsIn K mainGlobals "EmberError" = some (some (.ref C_EmberError)))
    {C_NoFlame : Addr} (e1_NoFlame : PySem.W.nsIn K mainGlobals "NoFlame" = some (some (.ref C_NoFlame)))
    {C_NoNumber : Addr} (e1_NoNumber : PySem.W.nsIn K mainGlobals "NoNumber" = some (some (.ref C_NoNumber)))
    {C_NoPart : Addr} (e1_NoPart : PySem.W.nsIn K mainGlobals "NoPart" = some (some (.ref C_NoPart)))
    {C_NoRing : Addr} (e1_NoRing : PySem.W.nsIn K mainGlobals "NoRing" = some (some (.ref C_NoRing)))
    {C_NoText : Addr} (e1_NoText : PySem.W.nsIn K mainGlobals "NoText" = some (some (.ref C_NoText)))
    (y1_ : PySem.W.specialIn K (.builtin "object.__class__") "__get__" = some (some (.builtin "getset_descriptor.__get__"))) (y2_ : PySem.W.takesIn K (.builtin "object.__class__") = some true)
    (x1_NoBeat : PySem.W.findIn K (.ref C_NoBeat) "__getattribute__" = some (some (.builtin "BaseException.__getattribute__"))) (x2_NoBeat : PySem.W.findIn K (.ref C_NoBeat) "__getattr__" = some none) (x3_NoBeat : PySem.W.subIn K (.ref C_NoBeat) (.type "BaseException") = some true) (x4_NoBeat : PySem.W.hasDictIn K C_NoBeat = true) (x5_NoBeat : PySem.W.findIn K (.ref C_NoBeat) "__class__" = some (some (.builtin "object.__class__"))) (x6_NoBeat : PySem.W.mroIn K C_NoBeat (.type "object") = some true)
    (x1_NoKindlings : PySem.W.findIn K (.ref C_NoKindlings) "__getattribute__" = some (some (.builtin "BaseException.__getattribute__"))) (x2_NoKindlings : PySem.W.findIn K (.ref C_NoKindlings) "__getattr__" = some none) (x3_NoKindlings : PySem.W.subIn K (.ref C_NoKindlings) (.type "BaseException") = some true) (x4_NoKindlings : PySem.W.hasDictIn K C_NoKindlings = true) (x5_NoKindlings : PySem.W.findIn K (.ref C_NoKindlings) "__class__" = some (some (.builtin "object.__class__"))) (x6_NoKindlings : PySem.W.mroIn K C_NoKindlings (.type "object") = some true)
    (x1_NoLamp : PySem.W.findIn K (.ref C_NoLamp) "__getattribute__" = some (some (.builtin "BaseException.__getattribute__"))) (x2_NoLamp : PySem.W.findIn K (.ref C_NoLamp) "__getattr__" = some none) (x3_NoLamp : PySem.W.subIn K (.ref C_NoLamp) (.type "BaseException") = some true) (x4_NoLamp : PySem.W.hasDictIn K C_NoLamp = true) (x5_NoLamp : PySem.W.findIn K (.ref C_NoLamp) "__class__" = some (some (.builtin "object.__class__"))) (x6_NoLamp : PySem.W.mroIn K C_NoLamp (.type "object") = some true)
    (x1_NoNet : PySem.W.findIn K (.ref C_NoNet) "__getattribute__" = some (some (.builtin "BaseException.__getattribute__"))) (x2_NoNet : PySem.W.findIn K (.ref C_NoNet) "__getattr__" = some none) (x3_NoNet : PySem.W.subIn K (.ref C_NoNet) (.type "BaseException") = some true) (x4_NoNet : PySem.W.hasDictIn K C_NoNet = true) (x5_NoNet : PySem.W.findIn K (.ref C_NoNet) "__class__" = some (some (.builtin "object.__class__"))) (x6_NoNet : PySem.W.mroIn K C_NoNet (.type "object") = some true)
    (u_NoNet_NoNet : PySem.W.subIn K (.ref C_NoNet) (.ref C_NoNet) = some true)
    (d_NoNet : PySem.W.hasDictIn K C_NoNet = true) (t_NoNet : PySem.W.typeIn K (.ref C_NoNet) = some (.type "type"))
    (u_NoLamp_NoNet : PySem.W.subIn K (.ref C_NoLamp) (.ref C_NoNet) = some false)
    (u_NoLamp_NoLamp : PySem.W.subIn K (.ref C_NoLamp) (.ref C_NoLamp) = some true)
    (u_NoKindlings_NoNet : PySem.W.subIn K (.ref C_NoKindlings) (.ref C_NoNet) = some false)
    (u_NoKindlings_NoKindlings : PySem.W.subIn K (.ref C_NoKindlings) (.ref C_NoKindlings) = some true)
    (u_NoBeat_NoNet : PySem.W.subIn K (.ref C_NoBeat) (.ref C_NoNet) = some false)
    (u_NoBeat_NoBeat : PySem.W.subIn K (.ref C_NoBeat) (.ref C_NoBeat) = some true)
    (u_NoNet_NoKindlings : PySem.W.subIn K (.ref C_NoNet) (.ref C_NoKindlings) = some false)
    (d_NoKindlings : PySem.W.hasDictIn K C_NoKindlings = true) (t_NoKindlings : PySem.W.typeIn K (.ref C_NoKindlings) = some (.type "type"))
    (u_NoLamp_NoKindlings : PySem.W.subIn K (.ref C_NoLamp) (.ref C_NoKindlings) = some false)
    (u_NoBeat_NoKindlings : PySem.W.subIn K (.ref C_NoBeat) (.ref C_NoKindlings) = some false)
    (u_NoNet_NoBeat : PySem.W.subIn K (.ref C_NoNet) (.ref C_NoBeat) = some false)
    (d_NoBeat : PySem.W.hasDictIn K C_NoBeat = true) (t_NoBeat : PySem.W.typeIn K (.ref C_NoBeat) = some (.type "type"))
    (u_NoLamp_NoBeat : PySem.W.subIn K (.ref C_NoLamp) (.ref C_NoBeat) = some false)
    (u_NoKindlings_NoBeat : PySem.W.subIn K (.ref C_NoKindlings) (.ref C_NoBeat) = some false)
    (u_NoNet_NoLamp : PySem.W.subIn K (.ref C_NoNet) (.ref C_NoLamp) = some false)
    (d_NoLamp : PySem.W.hasDictIn K C_NoLamp = true) (t_NoLamp : PySem.W.typeIn K (.ref C_NoLamp) = some (.type "type"))
    (u_NoKindlings_NoLamp : PySem.W.subIn K (.ref C_NoKindlings) (.ref C_NoLamp) = some false)
    (u_NoBeat_NoLamp : PySem.W.subIn K (.ref C_NoBeat) (.ref C_NoLamp) = some false)
    (u_NoNet_NoText : PySem.W.subIn K (.ref C_NoNet) (.ref C_NoText) = some false)
    (d_NoText : PySem.W.hasDictIn K C_NoText = true) (t_NoText : PySem.W.typeIn K (.ref C_NoText) = some (.type "type"))
    (u_NoNet_NoRing : PySem.W.subIn K (.ref C_NoNet) (.ref C_NoRing) = some false)
    (d_NoRing : PySem.W.hasDictIn K C_NoRing = true) (t_NoRing : PySem.W.typeIn K (.ref C_NoRing) = some (.type "type"))
    (u_NoNet_NoPart : PySem.W.subIn K (.ref C_NoNet) (.ref C_NoPart) = some false)
    (d_NoPart : PySem.W.hasDictIn K C_NoPart = true) (t_NoPart : PySem.W.typeIn K (.ref C_NoPart) = some (.type "type"))
    (u_NoNet_NoNumber : PySem.W.subIn K (.ref C_NoNet) (.ref C_NoNumber) = some false)
    (d_NoNumber : PySem.W.hasDictIn K C_NoNumber = true) (t_NoNumber : PySem.W.typeIn K (.ref C_NoNumber) = some (.type "type"))
    (u_NoNet_NoFlame : PySem.W.subIn K (.ref C_NoNet) (.ref C_NoFlame) = some false)
    (d_NoFlame : PySem.W.hasDictIn K C_NoFlame = true) (t_NoFlame : PySem.W.typeIn K (.ref C_NoFlame) = some (.type "type"))
    (u_NoLamp_NoText : PySem.W.subIn K (.ref C_NoLamp) (.ref C_NoText) = some false)
    (u_NoLamp_NoRing : PySem.W.subIn K (.ref C_NoLamp) (.ref C_NoRing) = some false)
    (u_NoLamp_NoPart : PySem.W.subIn K (.ref C_NoLamp) (.ref C_NoPart) = some false)
    (u_NoLamp_NoNumber : PySem.W.subIn K (.ref C_NoLamp) (.ref C_NoNumber) = some false)
    (u_NoLamp_NoFlame : PySem.W.subIn K (.ref C_NoLamp) (.ref C_NoFlame) = some false)
    (u_NoKindlings_NoText : PySem.W.subIn K (.ref C_NoKindlings) (.ref C_NoText) = some false)
    (u_NoKindlings_NoRing : PySem.W.subIn K (.ref C_NoKindlings) (.ref C_NoRing) = some false)
    (u_NoKindlings_NoPart : PySem.W.subIn K (.ref C_NoKindlings) (.ref C_NoPart) = some false)
    (u_NoKindlings_NoNumber : PySem.W.subIn K (.ref C_NoKindlings) (.ref C_NoNumber) = some false)
    (u_NoKindlings_NoFlame : PySem.W.subIn K (.ref C_NoKindlings) (.ref C_NoFlame) = some false)
    (u_NoBeat_NoText : PySem.W.subIn K (.ref C_NoBeat) (.ref C_NoText) = some false)
    (u_NoBeat_NoRing : PySem.W.subIn K (.ref C_NoBeat) (.ref C_NoRing) = some false)
    (u_NoBeat_NoPart : PySem.W.subIn K (.ref C_NoBeat) (.ref C_NoPart) = some false)
    (u_NoBeat_NoNumber : PySem.W.subIn K (.ref C_NoBeat) (.ref C_NoNumber) = some false)
    (u_NoBeat_NoFlame : PySem.W.subIn K (.ref C_NoBeat) (.ref C_NoFlame) = some false)
    (v_NoNet : PySem.W.subIn K (.ref C_NoNet) (.type "ValueError") = some true)
    (v_NoLamp : PySem.W.subIn K (.ref C_NoLamp) (.type "ValueError") = some true)
    (v_NoKindlings : PySem.W.subIn K (.ref C_NoKindlings) (.type "ValueError") = some true)
    (v_NoBeat : PySem.W.subIn K (.ref C_NoBeat) (.type "ValueError") = some true)
    (u_NoNet_EmberError : PySem.W.subIn K (.ref C_NoNet) (.ref C_EmberError) = some true)
    (d_EmberError : PySem.W.hasDictIn K C_EmberError = true) (t_EmberError : PySem.W.typeIn K (.ref C_EmberError) = some (.type "type"))
    (b_EmberError : PySem.W.subIn K (.ref C_EmberError) (.type "BaseException") = some true)
    (u_NoLamp_EmberError : PySem.W.subIn K (.ref C_NoLamp) (.ref C_EmberError) = some true)
    (u_NoKindlings_EmberError : PySem.W.subIn K (.ref C_NoKindlings) (.ref C_EmberError) = some true)
    (u_NoBeat_EmberError : PySem.W.subIn K (.ref C_NoBeat) (.ref C_EmberError) = some true) :
    ∃ fd : FuncData, (∀ (s : Shared) (v : Value), BindsTo s fd ⟨[v], []⟩ [("script", v)]) ∧ ∀ base : Heap, K.In base → base.Ns mainGlobals mg → FnG l.prog w K mg base (L2.CX l.prog w) 11 fa fd ["script"] (spOf ⟨K, mg⟩ [Sh.s] [Sh.u] Sh.s m_law) := by
  have e := hfa.symm.trans (PySem.W.mg_of X G a_law)
  cases e
  have T : Tx K mg := ⟨PySem.W.mg_none_of X G z_ValueError, PySem.W.mg_none_of X G z_all, PySem.W.mg_none_of X G z_bool, PySem.W.mg_none_of X G z_int, PySem.W.mg_none_of X G z_isinstance, PySem.W.mg_none_of X G z_len, PySem.W.mg_none_of X G z_list, PySem.W.mg_none_of X G z_max, PySem.W.mg_none_of X G z_range, PySem.W.mg_none_of X G z_repr, PySem.W.mg_none_of X G z_sum, PySem.W.mg_none_of X G z_tuple, ⟨_, PySem.W.mg_of X G g_MOST_LAMPS⟩, ⟨_, PySem.W.mg_of X G e1_NoBeat, e2_NoBeat, e3_NoBeat, e4_NoBeat, e5_NoBeat⟩, ⟨_, PySem.W.mg_of X G e1_NoKindlings, e2_NoKindlings, e3_NoKindlings, e4_NoKindlings, e5_NoKindlings⟩, ⟨_, PySem.W.mg_of X G e1_NoLamp, e2_NoLamp, e3_NoLamp, e4_NoLamp, e5_NoLamp⟩, ⟨_, PySem.W.mg_of X G e1_NoNet, e2_NoNet, e3_NoNet, e4_NoNet, e5_NoNet⟩, ⟨_, PySem.W.mg_of X G e1_EmberError⟩, ⟨_, PySem.W.mg_of X G e1_NoBeat⟩, ⟨_, PySem.W.mg_of X G e1_NoFlame⟩, ⟨_, PySem.W.mg_of X G e1_NoKindlings⟩, ⟨_, PySem.W.mg_of X G e1_NoLamp⟩, ⟨_, PySem.W.mg_of X G e1_NoNet⟩, ⟨_, PySem.W.mg_of X G e1_NoNumber⟩, ⟨_, PySem.W.mg_of X G e1_NoPart⟩, ⟨_, PySem.W.mg_of X G e1_NoRing⟩, ⟨_, PySem.W.mg_of X G e1_NoText⟩, (fun C h => by cases h.symm.trans (PySem.W.mg_of X G e1_NoBeat); exact ⟨x1_NoBeat, x2_NoBeat, x3_NoBeat, x4_NoBeat, x5_NoBeat, y1_, y2_, x6_NoBeat⟩), (fun C h => by cases h.symm.trans (PySem.W.mg_of X G e1_NoKindlings); exact ⟨x1_NoKindlings, x2_NoKindlings, x3_NoKindlings, x4_NoKindlings, x5_NoKindlings, y1_, y2_, x6_NoKindlings⟩), (fun C h => by cases h.symm.trans (PySem.W.mg_of X G e1_NoLamp); exact ⟨x1_NoLamp, x2_NoLamp, x3_NoLamp, x4_NoLamp, x5_NoLamp, y1_, y2_, x6_NoLamp⟩), (fun C h => by cases h.symm.trans (PySem.W.mg_of X G e1_NoNet); exact ⟨x1_NoNet, x2_NoNet, x3_NoNet, x4_NoNet, x5_NoNet, y1_, y2_, x6_NoNet⟩), (fun C D h h2 => by cases h.symm.trans (PySem.W.mg_of X G e1_NoNet); cases h2.symm.trans (PySem.W.mg_of X G e1_NoNet); exact kit_ref d_NoNet t_NoNet u_NoNet_NoNet u_NoNet_NoNet), (fun C D h h2 => by cases h.symm.trans (PySem.W.mg_of X G e1_NoLamp); cases h2.symm.trans (PySem.W.mg_of X G e1_NoNet); exact kit_ref d_NoNet t_NoNet u_NoLamp_NoNet u_NoLamp_NoLamp), (fun C D h h2 => by cases h.symm.trans (PySem.W.mg_of X G e1_NoKindlings); cases h2.symm.trans (PySem.W.mg_of X G e1_NoNet); exact kit_ref d_NoNet t_NoNet u_NoKindlings_NoNet u_NoKindlings_NoKindlings), (fun C D h h2 => by cases h.symm.trans (PySem.W.mg_of X G e1_NoBeat); cases h2.symm.trans (PySem.W.mg_of X G e1_NoNet); exact kit_ref d_NoNet t_NoNet u_NoBeat_NoNet u_NoBeat_NoBeat), (fun C D h h2 => by cases h.symm.trans (PySem.W.mg_of X G e1_NoNet); cases h2.symm.trans (PySem.W.mg_of X G e1_NoKindlings); exact kit_ref d_NoKindlings t_NoKindlings u_NoNet_NoKindlings u_NoNet_NoNet), (fun C D h h2 => by cases h.symm.trans (PySem.W.mg_of X G e1_NoLamp); cases h2.symm.trans (PySem.W.mg_of X G e1_NoKindlings); exact kit_ref d_NoKindlings t_NoKindlings u_NoLamp_NoKindlings u_NoLamp_NoLamp), (fun C D h h2 => by cases h.symm.trans (PySem.W.mg_of X G e1_NoKindlings); cases h2.symm.trans (PySem.W.mg_of X G e1_NoKindlings); exact kit_ref d_NoKindlings t_NoKindlings u_NoKindlings_NoKindlings u_NoKindlings_NoKindlings), (fun C D h h2 => by cases h.symm.trans (PySem.W.mg_of X G e1_NoBeat); cases h2.symm.trans (PySem.W.mg_of X G e1_NoKindlings); exact kit_ref d_NoKindlings t_NoKindlings u_NoBeat_NoKindlings u_NoBeat_NoBeat), (fun C D h h2 => by cases h.symm.trans (PySem.W.mg_of X G e1_NoNet); cases h2.symm.trans (PySem.W.mg_of X G e1_NoBeat); exact kit_ref d_NoBeat t_NoBeat u_NoNet_NoBeat u_NoNet_NoNet), (fun C D h h2 => by cases h.symm.trans (PySem.W.mg_of X G e1_NoLamp); cases h2.symm.trans (PySem.W.mg_of X G e1_NoBeat); exact kit_ref d_NoBeat t_NoBeat u_NoLamp_NoBeat u_NoLamp_NoLamp), (fun C D h h2 => by cases h.symm.trans (PySem.W.mg_of X G e1_NoKindlings); cases h2.symm.trans (PySem.W.mg_of X G e1_NoBeat); exact kit_ref d_NoBeat t_NoBeat u_NoKindlings_NoBeat u_NoKindlings_NoKindlings), (fun C D h h2 => by cases h.symm.trans (PySem.W.mg_of X G e1_NoBeat); cases h2.symm.trans (PySem.W.mg_of X G e1_NoBeat); exact kit_ref d_NoBeat t_NoBeat u_NoBeat_NoBeat u_NoBeat_NoBeat), (fun C D h h2 => by cases h.symm.trans (PySem.W.mg_of X G e1_NoNet); cases h2.symm.trans (PySem.W.mg_of X G e1_NoLamp); exact kit_ref d_NoLamp t_NoLamp u_NoNet_NoLamp u_NoNet_NoNet), (fun C D h h2 => by cases h.symm.trans (PySem.W.mg_of X G e1_NoLamp); cases h2.symm.trans (PySem.W.mg_of X G e1_NoLamp); exact kit_ref d_NoLamp t_NoLamp u_NoLamp_NoLamp u_NoLamp_NoLamp), (fun C D h h2 => by cases h.symm.trans (PySem.W.mg_of X G e1_NoKindlings); cases h2.symm.trans (PySem.W.mg_of X G e1_NoLamp); exact kit_ref d_NoLamp t_NoLamp u_NoKindlings_NoLamp u_NoKindlings_NoKindlings), (fun C D h h2 => by cases h.symm.trans (PySem.W.mg_of X G e1_NoBeat); cases h2.symm.trans (PySem.W.mg_of X G e1_NoLamp); exact kit_ref d_NoLamp t_NoLamp u_NoBeat_NoLamp u_NoBeat_NoBeat), (fun C D h h2 => by cases h.symm.trans (PySem.W.mg_of X G e1_NoNet); cases h2.symm.trans (PySem.W.mg_of X G e1_NoText); exact kit_ref d_NoText t_NoText u_NoNet_NoText u_NoNet_NoNet), (fun C D h h2 => by cases h.symm.trans (PySem.W.mg_of X G e1_NoNet); cases h2.symm.trans (PySem.W.mg_of X G e1_NoRing); exact kit_ref d_NoRing t_NoRing u_NoNet_NoRing u_NoNet_NoNet), (fun C D h h2 => by cases h.symm.trans (PySem.W.mg_of X G e1_NoNet); cases h2.symm.trans (PySem.W.mg_of X G e1_NoPart); exact kit_ref d_NoPart t_NoPart u_NoNet_NoPart u_NoNet_NoNet), (fun C D h h2 => by cases h.symm.trans (PySem.W.mg_of X G e1_NoNet); cases h2.symm.trans (PySem.W.mg_of X G e1_NoNumber); exact kit_ref d_NoNumber t_NoNumber u_NoNet_NoNumber u_NoNet_NoNet), (fun C D h h2 => by cases h.symm.trans (PySem.W.mg_of X G e1_NoNet); cases h2.symm.trans (PySem.W.mg_of X G e1_NoFlame); exact kit_ref d_NoFlame t_NoFlame u_NoNet_NoFlame u_NoNet_NoNet), (fun C D h h2 => by cases h.symm.trans (PySem.W.mg_of X G e1_NoLamp); cases h2.symm.trans (PySem.W.mg_of X G e1_NoText); exact kit_ref d_NoText t_NoText u_NoLamp_NoText u_NoLamp_NoLamp), (fun C D h h2 => by cases h.symm.trans (PySem.W.mg_of X G e1_NoLamp); cases h2.symm.trans (PySem.W.mg_of X G e1_NoRing); exact kit_ref d_NoRing t_NoRing u_NoLamp_NoRing u_NoLamp_NoLamp), (fun C D h h2 => by cases h.symm.trans (PySem.W.mg_of X G e1_NoLamp); cases h2.symm.trans (PySem.W.mg_of X G e1_NoPart); exact kit_ref d_NoPart t_NoPart u_NoLamp_NoPart u_NoLamp_NoLamp), (fun C D h h2 => by cases h.symm.trans (PySem.W.mg_of X G e1_NoLamp); cases h2.symm.trans (PySem.W.mg_of X G e1_NoNumber); exact kit_ref d_NoNumber t_NoNumber u_NoLamp_NoNumber u_NoLamp_NoLamp), (fun C D h h2 => by cases h.symm.trans (PySem.W.mg_of X G e1_NoLamp); cases h2.symm.trans (PySem.W.mg_of X G e1_NoFlame); exact kit_ref d_NoFlame t_NoFlame u_NoLamp_NoFlame u_NoLamp_NoLamp), (fun C D h h2 => by cases h.symm.trans (PySem.W.mg_of X G e1_NoKindlings); cases h2.symm.trans (PySem.W.mg_of X G e1_NoText); exact kit_ref d_NoText t_NoText u_NoKindlings_NoText u_NoKindlings_NoKindlings), (fun C D h h2 => by cases h.symm.trans (PySem.W.mg_of X G e1_NoKindlings); cases h2.symm.trans (PySem.W.mg_of X G e1_NoRing); exact kit_ref d_NoRing t_NoRing u_NoKindlings_NoRing u_NoKindlings_NoKindlings), (fun C D h h2 => by cases h.symm.trans (PySem.W.mg_of X G e1_NoKindlings); cases h2.symm.trans (PySem.W.mg_of X G e1_NoPart); exact kit_ref d_NoPart t_NoPart u_NoKindlings_NoPart u_NoKindlings_NoKindlings), (fun C D h h2 => by cases h.symm.trans (PySem.W.mg_of X G e1_NoKindlings); cases h2.symm.trans (PySem.W.mg_of X G e1_NoNumber); exact kit_ref d_NoNumber t_NoNumber u_NoKindlings_NoNumber u_NoKindlings_NoKindlings), (fun C D h h2 => by cases h.symm.trans (PySem.W.mg_of X G e1_NoKindlings); cases h2.symm.trans (PySem.W.mg_of X G e1_NoFlame); exact kit_ref d_NoFlame t_NoFlame u_NoKindlings_NoFlame u_NoKindlings_NoKindlings), (fun C D h h2 => by cases h.symm.trans (PySem.W.mg_of X G e1_NoBeat); cases h2.symm.trans (PySem.W.mg_of X G e1_NoText); exact kit_ref d_NoText t_NoText u_NoBeat_NoText u_NoBeat_NoBeat), (fun C D h h2 => by cases h.symm.trans (PySem.W.mg_of X G e1_NoBeat); cases h2.symm.trans (PySem.W.mg_of X G e1_NoRing); exact kit_ref d_NoRing t_NoRing u_NoBeat_NoRing u_NoBeat_NoBeat), (fun C D h h2 => by cases h.symm.trans (PySem.W.mg_of X G e1_NoBeat); cases h2.symm.trans (PySem.W.mg_of X G e1_NoPart); exact kit_ref d_NoPart t_NoPart u_NoBeat_NoPart u_NoBeat_NoBeat), (fun C D h h2 => by cases h.symm.trans (PySem.W.mg_of X G e1_NoBeat); cases h2.symm.trans (PySem.W.mg_of X G e1_NoNumber); exact kit_ref d_NoNumber t_NoNumber u_NoBeat_NoNumber u_NoBeat_NoBeat), (fun C D h h2 => by cases h.symm.trans (PySem.W.mg_of X G e1_NoBeat); cases h2.symm.trans (PySem.W.mg_of X G e1_NoFlame); exact kit_ref d_NoFlame t_NoFlame u_NoBeat_NoFlame u_NoBeat_NoBeat), (fun C h => by cases h.symm.trans (PySem.W.mg_of X G e1_NoNet); exact kit_ve v_NoNet), (fun C h => by cases h.symm.trans (PySem.W.mg_of X G e1_NoLamp); exact kit_ve v_NoLamp), (fun C h => by cases h.symm.trans (PySem.W.mg_of X G e1_NoKindlings); exact kit_ve v_NoKindlings), (fun C h => by cases h.symm.trans (PySem.W.mg_of X G e1_NoBeat); exact kit_ve v_NoBeat), (fun C D h h2 => by cases h.symm.trans (PySem.W.mg_of X G e1_NoNet); cases h2.symm.trans (PySem.W.mg_of X G e1_EmberError); exact PySem.W.exm_ref b_EmberError d_EmberError t_EmberError u_NoNet_EmberError), (fun C D h h2 => by cases h.symm.trans (PySem.W.mg_of X G e1_NoLamp); cases h2.symm.trans (PySem.W.mg_of X G e1_EmberError); exact PySem.W.exm_ref b_EmberError d_EmberError t_EmberError u_NoLamp_EmberError), (fun C D h h2 => by cases h.symm.trans (PySem.W.mg_of X G e1_NoKindlings); cases h2.symm.trans (PySem.W.mg_of X G e1_EmberError); exact PySem.W.exm_ref b_EmberError d_EmberError t_EmberError u_NoKindlings_EmberError), (fun C D h h2 => by cases h.symm.trans (PySem.W.mg_of X G e1_NoBeat); cases h2.symm.trans (PySem.W.mg_of X G e1_EmberError); exact PySem.W.exm_ref b_EmberError d_EmberError t_EmberError u_NoBeat_EmberError)⟩
  refine ⟨PySem.W.fnOf "law" "law" (defArgs s_law) (defBody s_law) (defScope s_law) .none kV_law dc_law pm_law an_law cd_law ct_law, fun s v => .of_eq rfl, fun base _ _ => ?_⟩
  have d__law_cells : D__law_cells l.prog w K mg base 1 := def__law_cells (P := l.prog) (w := w) (base := base) T (fun_mk (st := s__law_cells) l__law_cells c__law_cells k__law_cells) (PySem.W.mg_of X G a__law_cells)
  have d__law_pull : D__law_pull l.prog w K mg base 1 := def__law_pull (P := l.prog) (w := w) (base := base) T (fun_mk (st := s__law_pull) l__law_pull c__law_pull k__law_pull) (PySem.W.mg_of X G a__law_pull)
  have d__law_next : D__law_next l.prog w K mg base 2 := def__law_next (P := l.prog) (w := w) (base := base) T d__law_pull (fun_mk (st := s__law_next) l__law_next c__law_next k__law_next) (PySem.W.mg_of X G a__law_next)
  have d__law_net : D__law_net l.prog w K mg base 3 := def__law_net (P := l.prog) (w := w) (base := base) T (d__law_pull.mono (by decide)) d__law_next (fun_mk (st := s__law_net) l__law_net c__law_net k__law_net) (PySem.W.mg_of X G a__law_net)
  have d_is_whole : D_is_whole l.prog w K mg base 1 := def_is_whole (P := l.prog) (w := w) (base := base) T (fun_mk (st := s_is_whole) l_is_whole c_is_whole k_is_whole) (PySem.W.mg_of X G a_is_whole)
  have d_is_below : D_is_below l.prog w K mg base 2 := def_is_below (P := l.prog) (w := w) (base := base) T d_is_whole (fun_mk (st := s_is_below) l_is_below c_is_below k_is_below) (PySem.W.mg_of X G a_is_below)
  have d_is_lamp : D_is_lamp l.prog w K mg base 3 := def_is_lamp (P := l.prog) (w := w) (base := base) T (d_is_whole.mono (by decide)) d_is_below (fun_mk (st := s_is_lamp) l_is_lamp c_is_lamp k_is_lamp) (PySem.W.mg_of X G a_is_lamp)
  have d_is_net : D_is_net l.prog w K mg base 4 := def_is_net (P := l.prog) (w := w) (base := base) T d_is_lamp (fun_mk (st := s_is_net) l_is_net c_is_net k_is_net) (PySem.W.mg_of X G a_is_net)
  have d_need_net : D_need_net l.prog w K mg base 5 := def_need_net (P := l.prog) (w := w) (base := base) T d_is_net (fun_mk (st := s_need_net) l_need_net c_need_net k_need_net) (PySem.W.mg_of X G a_need_net)
  have d_is_kindling : D_is_kindling l.prog w K mg base 3 := def_is_kindling (P := l.prog) (w := w) (base := base) T (d_is_whole.mono (by decide)) d_is_below (fun_mk (st := s_is_kindling) l_is_kindling c_is_kindling k_is_kindling) (PySem.W.mg_of X G a_is_kindling)
  have d_need_kindling : D_need_kindling l.prog w K mg base 6 := def_need_kindling (P := l.prog) (w := w) (base := base) T d_need_net (d_is_kindling.mono (by decide)) (fun_mk (st := s_need_kindling) l_need_kindling c_need_kindling k_need_kindling) (PySem.W.mg_of X G a_need_kindling)
  have d_need_lamp : D_need_lamp l.prog w K mg base 3 := def_need_lamp (P := l.prog) (w := w) (base := base) T d_is_below (fun_mk (st := s_need_lamp) l_need_lamp c_need_lamp k_need_lamp) (PySem.W.mg_of X G a_need_lamp)
  have d_way_of : D_way_of l.prog w K mg base 6 := def_way_of (P := l.prog) (w := w) (base := base) T d_need_net (d_need_lamp.mono (by decide)) (fun_mk (st := s_way_of) l_way_of c_way_of k_way_of) (PySem.W.mg_of X G a_way_of)
  have d_length_of : D_length_of l.prog w K mg base 1 := def_length_of (P := l.prog) (w := w) (base := base) T (fun_mk (st := s_length_of) l_length_of c_length_of k_length_of) (PySem.W.mg_of X G a_length_of)
  have d_first_lit : D_first_lit l.prog w K mg base 7 := def_first_lit (P := l.prog) (w := w) (base := base) T d_way_of (d_length_of.mono (by decide)) (fun_mk (st := s_first_lit) l_first_lit c_first_lit k_first_lit) (PySem.W.mg_of X G a_first_lit)
  have dk_gap_of_0 : DK_gap_of_0 l.prog w K mg base 8 := defk_gap_of_0 (P := l.prog) (w := w) (base := base) T (d_need_kindling.mono (by decide)) (d_way_of.mono (by decide)) d_first_lit (fun_mk (st := s_gap_of) l_gap_of c_gap_of k_gap_of) (PySem.W.mg_of X G a_gap_of)
  have d_gap_of : D_gap_of l.prog w K mg base 8 := def_gap_of (P := l.prog) (w := w) (base := base) T (d_need_kindling.mono (by decide)) (d_way_of.mono (by decide)) d_first_lit (fun_mk (st := s_gap_of) l_gap_of c_gap_of k_gap_of) (PySem.W.mg_of X G a_gap_of)
  have d__law_kind : D__law_kind l.prog w K mg base 1 := def__law_kind (P := l.prog) (w := w) (base := base) T (fun_mk (st := s__law_kind) l__law_kind c__law_kind k__law_kind) (PySem.W.mg_of X G a__law_kind)
  have d_spot_in : D_spot_in l.prog w K mg base 1 := def_spot_in (P := l.prog) (w := w) (base := base) T (fun_mk (st := s_spot_in) l_spot_in c_spot_in k_spot_in) (PySem.W.mg_of X G a_spot_in)
  have dk_place_alone_0 : DK_place_alone_0 l.prog w K mg base 7 := defk_place_alone_0 (P := l.prog) (w := w) (base := base) T d_need_kindling d_way_of (d_spot_in.mono (by decide)) (d_is_whole.mono (by decide)) (d_length_of.mono (by decide)) (fun_mk (st := s_place_alone) l_place_alone c_place_alone k_place_alone) (PySem.W.mg_of X G a_place_alone)
  have d_place_alone : D_place_alone l.prog w K mg base 7 := def_place_alone (P := l.prog) (w := w) (base := base) T d_need_kindling d_way_of (d_spot_in.mono (by decide)) (d_is_whole.mono (by decide)) (d_length_of.mono (by decide)) (fun_mk (st := s_place_alone) l_place_alone c_place_alone k_place_alone) (PySem.W.mg_of X G a_place_alone)
  have dk_lights_alone_0 : DK_lights_alone_0 l.prog w K mg base 8 := defk_lights_alone_0 (P := l.prog) (w := w) (base := base) T (d_need_kindling.mono (by decide)) (d_need_lamp.mono (by decide)) d_first_lit (fun_mk (st := s_lights_alone) l_lights_alone c_lights_alone k_lights_alone) (PySem.W.mg_of X G a_lights_alone)
  have d_lights_alone : D_lights_alone l.prog w K mg base 8 := def_lights_alone (P := l.prog) (w := w) (base := base) T (d_need_kindling.mono (by decide)) (d_need_lamp.mono (by decide)) d_first_lit (fun_mk (st := s_lights_alone) l_lights_alone c_lights_alone k_lights_alone) (PySem.W.mg_of X G a_lights_alone)
  have d__law_told : D__law_told l.prog w K mg base 9 := def__law_told (P := l.prog) (w := w) (base := base) T d_gap_of (d__law_kind.mono (by decide)) (d_place_alone.mono (by decide)) d_lights_alone (fun_mk (st := s__law_told) l__law_told c__law_told k__law_told) (PySem.W.mg_of X G a__law_told)
  have d__law_no_kindling : D__law_no_kindling l.prog w K mg base 2 := def__law_no_kindling (P := l.prog) (w := w) (base := base) T d__law_pull (fun_mk (st := s__law_no_kindling) l__law_no_kindling c__law_no_kindling k__law_no_kindling) (PySem.W.mg_of X G a__law_no_kindling)
  have d__law_no_net : D__law_no_net l.prog w K mg base 2 := def__law_no_net (P := l.prog) (w := w) (base := base) T d__law_pull (fun_mk (st := s__law_no_net) l__law_no_net c__law_no_net k__law_no_net) (PySem.W.mg_of X G a__law_no_net)
  have d__law_no_number : D__law_no_number l.prog w K mg base 2 := def__law_no_number (P := l.prog) (w := w) (base := base) T d__law_pull (fun_mk (st := s__law_no_number) l__law_no_number c__law_no_number k__law_no_number) (PySem.W.mg_of X G a__law_no_number)
  have d__law_named : D__law_named l.prog w K mg base 9 := def__law_named (P := l.prog) (w := w) (base := base) T (dk_place_alone_0.mono (by decide)) dk_lights_alone_0 dk_gap_of_0 (fun_mk (st := s__law_named) l__law_named c__law_named k__law_named) (PySem.W.mg_of X G a__law_named)
  have d__law_right : D__law_right l.prog w K mg base 10 := def__law_right (P := l.prog) (w := w) (base := base) T (d__law_net.mono (by decide)) (d__law_pull.mono (by decide)) d__law_told (d__law_no_kindling.mono (by decide)) (d__law_no_net.mono (by decide)) (d__law_no_number.mono (by decide)) d__law_named (fun_mk (st := s__law_right) l__law_right c__law_right k__law_right) (PySem.W.mg_of X G a__law_right)
  have d__law_jar : D__law_jar l.prog w K mg base 1 := def__law_jar (P := l.prog) (w := w) (base := base) T (fun_mk (st := s__law_jar) l__law_jar c__law_jar k__law_jar) (PySem.W.mg_of X G a__law_jar)
  exact def_law (P := l.prog) (w := w) (base := base) T (d__law_cells.mono (by decide)) d__law_right (d__law_jar.mono (by decide)) (fun_mk (st := s_law) l_law c_law k_law) (PySem.W.mg_of X G a_law)
end K23
set_option maxHeartbeats 200000
open PySem PySem.W PyProof.Rows
set_option maxRecDepth 100000 in
set_option maxHeartbeats 0 in
theorem PySem.Challenge.cw_emberlane_k23_alone_refused_holds : PySem.Challenge.rw_emberlane_k23_alone_refused.Holds := by
  w_on; o_law; k_head; (case hw => w_witness2)
  k_fill
  refine EB.walk_EB (l := PySem.Challenge.rw_emberlane_k23_alone_refused) (k := 11) (m := K23.m_law) rfl rfl ⟨rfl, by decide, by decide⟩ (fun w h Y => PySem.W.kIn_of Y) ?F K23.law_ok
  case F =>
    intro w mg fa h KX G hmg
    refine' K23.all_mk KX G hmg ?a__law_cells ?l__law_cells ?c__law_cells ?k__law_cells ?a__law_pull ?l__law_pull ?c__law_pull ?k__law_pull ?a__law_next ?l__law_next ?c__law_next ?k__law_next ?a__law_net ?l__law_net ?c__law_net ?k__law_net ?a_is_whole ?l_is_whole ?c_is_whole ?k_is_whole ?a_is_below ?l_is_below ?c_is_below ?k_is_below ?a_is_lamp ?l_is_lamp ?c_is_lamp ?k_is_lamp ?a_is_net ?l_is_net ?c_is_net ?k_is_net ?a_need_net ?l_need_net ?c_need_net ?k_need_net ?a_is_kindling ?l_is_kindling ?c_is_kindling ?k_is_kindling ?a_need_kindling ?l_need_kindling ?c_need_kindling ?k_need_kindling ?a_need_lamp ?l_need_lamp ?c_need_lamp ?k_need_lamp ?a_way_of ?l_way_of ?c_way_of ?k_way_of ?a_length_of ?l_length_of ?c_length_of ?k_length_of ?a_first_lit ?l_first_lit ?c_first_lit ?k_first_lit ?a_gap_of ?l_gap_of ?c_gap_of ?k_gap_of ?a__law_kind ?l__law_kind ?c__law_kind ?k__law_kind ?a_spot_in ?l_spot_in ?c_spot_in ?k_spot_in ?a_place_alone ?l_place_alone ?c_place_alone ?k_place_alone ?a_lights_alone ?l_lights_alone ?c_lights_alone ?k_lights_alone ?a__law_told ?l__law_told ?c__law_told ?k__law_told ?a__law_no_kindling ?l__law_no_kindling ?c__law_no_kindling ?k__law_no_kindling ?a__law_no_net ?l__law_no_net ?c__law_no_net ?k__law_no_net ?a__law_no_number ?l__law_no_number ?c__law_no_number ?k__law_no_number ?a__law_named ?l__law_named ?c__law_named ?k__law_named ?a__law_right ?l__law_right ?c__law_right ?k__law_right ?a__law_jar ?l__law_jar ?c__law_jar ?k__law_jar ?a_law ?l_law ?c_law ?k_law ?z_ValueError ?z_all ?z_bool ?z_int ?z_isinstance ?z_len ?z_list ?z_max ?z_range ?z_repr ?z_sum ?z_tuple ?g_MOST_LAMPS ?e1_NoBeat ?e2_NoBeat ?e3_NoBeat ?e4_NoBeat ?e5_NoBeat ?e1_NoKindlings ?e2_NoKindlings ?e3_NoKindlings ?e4_NoKindlings ?e5_NoKindlings ?e1_NoLamp ?e2_NoLamp ?e3_NoLamp ?e4_NoLamp ?e5_NoLamp ?e1_NoNet ?e2_NoNet ?e3_NoNet ?e4_NoNet ?e5_NoNet ?e1_EmberError ?e1_NoFlame ?e1_NoNumber ?e1_NoPart ?e1_NoRing ?e1_NoText ?y1_ ?y2_ ?x1_NoBeat ?x2_NoBeat ?x3_NoBeat ?x4_NoBeat ?x5_NoBeat ?x6_NoBeat ?x1_NoKindlings ?x2_NoKindlings ?x3_NoKindlings ?x4_NoKindlings ?x5_NoKindlings ?x6_NoKindlings ?x1_NoLamp ?x2_NoLamp ?x3_NoLamp ?x4_NoLamp ?x5_NoLamp ?x6_NoLamp ?x1_NoNet ?x2_NoNet ?x3_NoNet ?x4_NoNet ?x5_NoNet ?x6_NoNet ?u_NoNet_NoNet ?d_NoNet ?t_NoNet ?u_NoLamp_NoNet ?u_NoLamp_NoLamp ?u_NoKindlings_NoNet ?u_NoKindlings_NoKindlings ?u_NoBeat_NoNet ?u_NoBeat_NoBeat ?u_NoNet_NoKindlings ?d_NoKindlings ?t_NoKindlings ?u_NoLamp_NoKindlings ?u_NoBeat_NoKindlings ?u_NoNet_NoBeat ?d_NoBeat ?t_NoBeat ?u_NoLamp_NoBeat ?u_NoKindlings_NoBeat ?u_NoNet_NoLamp ?d_NoLamp ?t_NoLamp ?u_NoKindlings_NoLamp ?u_NoBeat_NoLamp ?u_NoNet_NoText ?d_NoText ?t_NoText ?u_NoNet_NoRing ?d_NoRing ?t_NoRing ?u_NoNet_NoPart ?d_NoPart ?t_NoPart ?u_NoNet_NoNumber ?d_NoNumber ?t_NoNumber ?u_NoNet_NoFlame ?d_NoFlame ?t_NoFlame ?u_NoLamp_NoText ?u_NoLamp_NoRing ?u_NoLamp_NoPart ?u_NoLamp_NoNumber ?u_NoLamp_NoFlame ?u_NoKindlings_NoText ?u_NoKindlings_NoRing ?u_NoKindlings_NoPart ?u_NoKindlings_NoNumber ?u_NoKindlings_NoFlame ?u_NoBeat_NoText ?u_NoBeat_NoRing ?u_NoBeat_NoPart ?u_NoBeat_NoNumber ?u_NoBeat_NoFlame ?v_NoNet ?v_NoLamp ?v_NoKindlings ?v_NoBeat ?u_NoNet_EmberError ?d_EmberError ?t_EmberError ?b_EmberError ?u_NoLamp_EmberError ?u_NoKindlings_EmberError ?u_NoBeat_EmberError
    (case a__law_cells => k_is)
    (case l__law_cells => k_is)
    (case c__law_cells => k_is)
    (case k__law_cells => k_is)
    (case a__law_pull => k_is)
    (case l__law_pull => k_is)
    (case c__law_pull => k_is)
    (case k__law_pull => k_is)
    (case a__law_next => k_is)
    (case l__law_next => k_is)
    (case c__law_next => k_is)
    (case k__law_next => k_is)
    (case a__law_net => k_is)
    (case l__law_net => k_is)
    (case c__law_net => k_is)
    (case k__law_net => k_is)
    (case a_is_whole => k_is)
    (case l_is_whole => k_is)
    (case c_is_whole => k_is)
    (case k_is_whole => k_is)
    (case a_is_below => k_is)
    (case l_is_below => k_is)
    (case c_is_below => k_is)
    (case k_is_below => k_is)
    (case a_is_lamp => k_is)
    (case l_is_lamp => k_is)
    (case c_is_lamp => k_is)
    (case k_is_lamp => k_is)
    (case a_is_net => k_is)
    (case l_is_net => k_is)
    (case c_is_net => k_is)
    (case k_is_net => k_is)
    (case a_need_net => k_is)
    (case l_need_net => k_is)
    (case c_need_net => k_is)
    (case k_need_net => k_is)
    (case a_is_kindling => k_is)
    (case l_is_kindling => k_is)
    (case c_is_kindling => k_is)
    (case k_is_kindling => k_is)
    (case a_need_kindling => k_is)
    (case l_need_kindling => k_is)
    (case c_need_kindling => k_is)
    (case k_need_kindling => k_is)
    (case a_need_lamp => k_is)
    (case l_need_lamp => k_is)
    (case c_need_lamp => k_is)
    (case k_need_lamp => k_is)
    (case a_way_of => k_is)
    (case l_way_of => k_is)
    (case c_way_of => k_is)
    (case k_way_of => k_is)
    (case a_length_of => k_is)
    (case l_length_of => k_is)
    (case c_length_of => k_is)
    (case k_length_of => k_is)
    (case a_first_lit => k_is)
    (case l_first_lit => k_is)
    (case c_first_lit => k_is)
    (case k_first_lit => k_is)
    (case a_gap_of => k_is)
    (case l_gap_of => k_is)
    (case c_gap_of => k_is)
    (case k_gap_of => k_is)
    (case a__law_kind => k_is)
    (case l__law_kind => k_is)
    (case c__law_kind => k_is)
    (case k__law_kind => k_is)
    (case a_spot_in => k_is)
    (case l_spot_in => k_is)
    (case c_spot_in => k_is)
    (case k_spot_in => k_is)
    (case a_place_alone => k_is)
    (case l_place_alone => k_is)
    (case c_place_alone => k_is)
    (case k_place_alone => k_is)
    (case a_lights_alone => k_is)
    (case l_lights_alone => k_is)
    (case c_lights_alone => k_is)
    (case k_lights_alone => k_is)
    (case a__law_told => k_is)
    (case l__law_told => k_is)
    (case c__law_told => k_is)
    (case k__law_told => k_is)
    (case a__law_no_kindling => k_is)
    (case l__law_no_kindling => k_is)
    (case c__law_no_kindling => k_is)
    (case k__law_no_kindling => k_is)
    (case a__law_no_net => k_is)
    (case l__law_no_net => k_is)
    (case c__law_no_net => k_is)
    (case k__law_no_net => k_is)
    (case a__law_no_number => k_is)
    (case l__law_no_number => k_is)
    (case c__law_no_number => k_is)
    (case k__law_no_number => k_is)
    (case a__law_named => k_is)
    (case l__law_named => k_is)
    (case c__law_named => k_is)
    (case k__law_named => k_is)
    (case a__law_right => k_is)
    (case l__law_right => k_is)
    (case c__law_right => k_is)
    (case k__law_right => k_is)
    (case a__law_jar => k_is)
    (case l__law_jar => k_is)
    (case c__law_jar => k_is)
    (case k__law_jar => k_is)
    (case a_law => k_is)
    (case l_law => k_is)
    (case c_law => k_is)
    (case k_law => k_is)
    (case z_ValueError => k_is)
    (case z_all => k_is)
    (case z_bool => k_is)
    (case z_int => k_is)
    (case z_isinstance => k_is)
    (case z_len => k_is)
    (case z_list => k_is)
    (case z_max => k_is)
    (case z_range => k_is)
    (case z_repr => k_is)
    (case z_sum => k_is)
    (case z_tuple => k_is)
    (case g_MOST_LAMPS => k_is)
    (case e1_NoBeat => k_is)
    (case e2_NoBeat => k_exc)
    (case e3_NoBeat => k_is)
    (case e4_NoBeat => k_is)
    (case e5_NoBeat => k_is)
    (case e1_NoKindlings => k_is)
    (case e2_NoKindlings => k_exc)
    (case e3_NoKindlings => k_is)
    (case e4_NoKindlings => k_is)
    (case e5_NoKindlings => k_is)
    (case e1_NoLamp => k_is)
    (case e2_NoLamp => k_exc)
    (case e3_NoLamp => k_is)
    (case e4_NoLamp => k_is)
    (case e5_NoLamp => k_is)
    (case e1_NoNet => k_is)
    (case e2_NoNet => k_exc)
    (case e3_NoNet => k_is)
    (case e4_NoNet => k_is)
    (case e5_NoNet => k_is)
    (case e1_EmberError => k_is)
    (case e1_NoFlame => k_is)
    (case e1_NoNumber => k_is)
    (case e1_NoPart => k_is)
    (case e1_NoRing => k_is)
    (case e1_NoText => k_is)
    (case y1_ => k_is)
    (case y2_ => k_is)
    (case x1_NoBeat => k_is)
    (case x2_NoBeat => k_is)
    (case x3_NoBeat => k_is)
    (case x4_NoBeat => k_is)
    (case x5_NoBeat => k_is)
    (case x6_NoBeat => k_is)
    (case x1_NoKindlings => k_is)
    (case x2_NoKindlings => k_is)
    (case x3_NoKindlings => k_is)
    (case x4_NoKindlings => k_is)
    (case x5_NoKindlings => k_is)
    (case x6_NoKindlings => k_is)
    (case x1_NoLamp => k_is)
    (case x2_NoLamp => k_is)
    (case x3_NoLamp => k_is)
    (case x4_NoLamp => k_is)
    (case x5_NoLamp => k_is)
    (case x6_NoLamp => k_is)
    (case x1_NoNet => k_is)
    (case x2_NoNet => k_is)
    (case x3_NoNet => k_is)
    (case x4_NoNet => k_is)
    (case x5_NoNet => k_is)
    (case x6_NoNet => k_is)
    (case u_NoNet_NoNet => k_is)
    (case d_NoNet => k_is)
    (case t_NoNet => k_is)
    (case u_NoLamp_NoNet => k_is)
    (case u_NoLamp_NoLamp => k_is)
    (case u_NoKindlings_NoNet => k_is)
    (case u_NoKindlings_NoKindlings => k_is)
    (case u_NoBeat_NoNet => k_is)
    (case u_NoBeat_NoBeat => k_is)
    (case u_NoNet_NoKindlings => k_is)
    (case d_NoKindlings => k_is)
    (case t_NoKindlings => k_is)
    (case u_NoLamp_NoKindlings => k_is)
    (case u_NoBeat_NoKindlings => k_is)
    (case u_NoNet_NoBeat => k_is)
    (case d_NoBeat => k_is)
    (case t_NoBeat => k_is)
    (case u_NoLamp_NoBeat => k_is)
    (case u_NoKindlings_NoBeat => k_is)
    (case u_NoNet_NoLamp => k_is)
    (case d_NoLamp => k_is)
    (case t_NoLamp => k_is)
    (case u_NoKindlings_NoLamp => k_is)
    (case u_NoBeat_NoLamp => k_is)
    (case u_NoNet_NoText => k_is)
    (case d_NoText => k_is)
    (case t_NoText => k_is)
    (case u_NoNet_NoRing => k_is)
    (case d_NoRing => k_is)
    (case t_NoRing => k_is)
    (case u_NoNet_NoPart => k_is)
    (case d_NoPart => k_is)
    (case t_NoPart => k_is)
    (case u_NoNet_NoNumber => k_is)
    (case d_NoNumber => k_is)
    (case t_NoNumber => k_is)
    (case u_NoNet_NoFlame => k_is)
    (case d_NoFlame => k_is)
    (case t_NoFlame => k_is)
    (case u_NoLamp_NoText => k_is)
    (case u_NoLamp_NoRing => k_is)
    (case u_NoLamp_NoPart => k_is)
    (case u_NoLamp_NoNumber => k_is)
    (case u_NoLamp_NoFlame => k_is)
    (case u_NoKindlings_NoText => k_is)
    (case u_NoKindlings_NoRing => k_is)
    (case u_NoKindlings_NoPart => k_is)
    (case u_NoKindlings_NoNumber => k_is)
    (case u_NoKindlings_NoFlame => k_is)
    (case u_NoBeat_NoText => k_is)
    (case u_NoBeat_NoRing => k_is)
    (case u_NoBeat_NoPart => k_is)
    (case u_NoBeat_NoNumber => k_is)
    (case u_NoBeat_NoFlame => k_is)
    (case v_NoNet => k_is)
    (case v_NoLamp => k_is)
    (case v_NoKindlings => k_is)
    (case v_NoBeat => k_is)
    (case u_NoNet_EmberError => k_is)
    (case d_EmberError => k_is)
    (case t_EmberError => k_is)
    (case b_EmberError => k_is)
    (case u_NoLamp_EmberError => k_is)
    (case u_NoKindlings_EmberError => k_is)
    (case u_NoBeat_EmberError => k_is)
#print axioms PySem.Challenge.cw_emberlane_k23_alone_refused_holds
